/- Functions without a count of rounds; printed. -/
import Derived.Test.YtbaeikcfchiiaaaKH1
set_option maxRecDepth 100000
set_option maxHeartbeats 4000000
set_option linter.unusedVariables false
namespace Go.Proofs.YtbaeikcfchiiaaaE
-- impl.signAt
theorem MFi_signAt_1003 (k : Nat) {r1003 q1003 : List Int → Int → Int → Bool → List Int → Int → Option (Int)} (h1003 : ∀ (p : List Int) (xs_0 : Int) (xs_1 : Int) (sums_0 : Bool) (sums : List Int) (i : Int), Le (r1003 p xs_0 xs_1 sums_0 sums i) (q1003 p xs_0 xs_1 sums_0 sums i)) (p : List Int) (xs_0 : Int) (xs_1 : Int) (sums_0 : Bool) (sums : List Int) (i : Int) : Le (F131_1003 k r1003 p xs_0 xs_1 sums_0 sums i) (F131_1003 (k + 1) q1003 p xs_0 xs_1 sums_0 sums i) := by
  unfold F131_1003
  repeat' first | with_reducible exact Le.rfl _ | with_reducible exact Mi_long_times _ _ _ _ | with_reducible exact Mi_long_plus _ _ _ _ _ | with_reducible exact Mi_longOf _ _ _ | with_reducible exact Mi_long_sign _ _ _ | with_reducible exact h1003 _ _ _ _ _ _ | with_reducible refine Le.cond ?_ ?_ | with_reducible refine Le.bind ?_ fun _ => ?_
theorem Mli_signAt : ∀ k : Nat, ∀ (p : List Int) (xs_0 : Int) (xs_1 : Int) (sums_0 : Bool) (sums : List Int) (i : Int), Le ((l131 k) p xs_0 xs_1 sums_0 sums i) ((l131 (k + 1)) p xs_0 xs_1 sums_0 sums i)
  | 0 => fun p xs_0 xs_1 sums_0 sums i => Le.no _
  | k + 1 => by
    have h := Mli_signAt k
    exact fun p xs_0 xs_1 sums_0 sums i => MFi_signAt_1003 k h p xs_0 xs_1 sums_0 sums i
noncomputable def i_signAt_1003 (p : List Int) (xs_0 : Int) (xs_1 : Int) (sums_0 : Bool) (sums : List Int) (i : Int) : Option (Int) := lim fun k => (l131 k) p xs_0 xs_1 sums_0 sums i
theorem Rli_signAt_1003 (p : List Int) (xs_0 : Int) (xs_1 : Int) (sums_0 : Bool) (sums : List Int) (i : Int) : Lim (fun k => (l131 k) p xs_0 xs_1 sums_0 sums i) (i_signAt_1003 p xs_0 xs_1 sums_0 sums i) := Lim.of_mono fun k => Mli_signAt k p xs_0 xs_1 sums_0 sums i
theorem Ei_signAt_1003 (p : List Int) (xs_0 : Int) (xs_1 : Int) (sums_0 : Bool) (sums : List Int) (i : Int) : i_signAt_1003 p xs_0 xs_1 sums_0 sums i =
  bif decide (0 ≤ i) then
    (i_long_times sums_0 sums xs_0).bind fun r0 =>
    bif boundA i (List.length p) then
      (i_longOf (List.getD p (Int.toNat i) 0) (IntKind.wrap IntKind.i64 (xs_1 * IntKind.wrap IntKind.i64 (IntKind.wrap IntKind.i64 ((↑(List.length p) : Int) - 1) - i)))).bind fun r1 =>
      (i_long_plus r0.fst r0.snd r1.fst r1.snd).bind fun r2 =>
      i_signAt_1003 p xs_0 xs_1 (r2.fst) (r2.snd) (IntKind.wrap IntKind.i64 (i - 1))
    else
      none
  else
    (i_long_sign sums_0 sums).bind fun r3 =>
    some r3 := by
  refine Lim.uniq (Lim.shift (Rli_signAt_1003 p xs_0 xs_1 sums_0 sums i)) (?_ : Lim (fun k => F131_1003 k ((l131 k)) p xs_0 xs_1 sums_0 sums i) _)
  unfold F131_1003
  repeat' first | with_reducible exact Lim.ret _ | with_reducible exact Ri_long_times _ _ _ | with_reducible exact Ri_long_plus _ _ _ _ | with_reducible exact Ri_longOf _ _ | with_reducible exact Ri_long_sign _ _ | with_reducible exact Rli_signAt_1003 _ _ _ _ _ _ | with_reducible refine Lim.cond ?_ ?_ | with_reducible refine Lim.bind ?_ fun _ => ?_
noncomputable def i_signAt (p : List (Int)) (x_N : Int) (x_K : Int) : Option (Int) :=
  i_signAt_1003 p x_N x_K false ([]) (IntKind.wrap IntKind.i64 ((↑(List.length p) : Int) - 1))
theorem Mi_signAt (k : Nat) (p : List (Int)) (x_N : Int) (x_K : Int) : Le (f131 k p x_N x_K) (f131 (k + 1) p x_N x_K) := by
  have h := Mli_signAt k
  unfold f131 F131
  repeat' first | with_reducible exact Le.rfl _ | with_reducible exact h _ _ _ _ _ _ | with_reducible refine Le.cond ?_ ?_ | with_reducible refine Le.bind ?_ fun _ => ?_
theorem Ri_signAt (p : List (Int)) (x_N : Int) (x_K : Int) : Lim (fun k => f131 k p x_N x_K) (i_signAt p x_N x_K) := by
  unfold f131 F131 i_signAt
  repeat' first | with_reducible exact Lim.ret _ | with_reducible exact Rli_signAt_1003 _ _ _ _ _ _ | with_reducible refine Lim.cond ?_ ?_ | with_reducible refine Lim.bind ?_ fun _ => ?_

-- impl.familySign
noncomputable def i_familySign (p : List (Int)) (q : List (Int)) (x_N : Int) (x_K : Int) (i : Int) (k_ : Int) (fine : Int) : Option (Int) :=
  (i_familyAt p q i fine).bind fun r0 =>
  (i_signAt r0 x_N x_K).bind fun r1 =>
  (i_familyAt p q k_ fine).bind fun r2 =>
  (i_signAt r2 x_N x_K).bind fun r3 =>
  bif !decide (r3 = r1) then
    some (0)
  else
    some r1
theorem Mi_familySign (k : Nat) (p : List (Int)) (q : List (Int)) (x_N : Int) (x_K : Int) (i : Int) (k_ : Int) (fine : Int) : Le (f137 k p q x_N x_K i k_ fine) (f137 (k + 1) p q x_N x_K i k_ fine) := by
  unfold f137
  repeat' first | with_reducible exact Le.rfl _ | with_reducible exact Mi_signAt _ _ _ _ | with_reducible exact Mi_familyAt _ _ _ _ _ | with_reducible refine Le.cond ?_ ?_ | with_reducible refine Le.bind ?_ fun _ => ?_
theorem Ri_familySign (p : List (Int)) (q : List (Int)) (x_N : Int) (x_K : Int) (i : Int) (k_ : Int) (fine : Int) : Lim (fun k => f137 k p q x_N x_K i k_ fine) (i_familySign p q x_N x_K i k_ fine) := by
  unfold f137 i_familySign
  repeat' first | with_reducible exact Lim.ret _ | with_reducible exact Ri_signAt _ _ _ | with_reducible exact Ri_familyAt _ _ _ _ | with_reducible refine Lim.cond ?_ ?_ | with_reducible refine Lim.bind ?_ fun _ => ?_

-- impl.deriveSingle
theorem MFi_deriveSingle_1003 (k : Nat) {r1003 q1003 : List Int → List Int → Int → Option (List (Int))} (h1003 : ∀ (p : List Int) (outs : List Int) (i : Int), Le (r1003 p outs i) (q1003 p outs i)) (p : List Int) (outs : List Int) (i : Int) : Le (F202_1003 k r1003 p outs i) (F202_1003 (k + 1) q1003 p outs i) := by
  unfold F202_1003
  repeat' first | with_reducible exact Le.rfl _ | with_reducible exact Mi_stripped _ _ | with_reducible exact h1003 _ _ _ | with_reducible refine Le.cond ?_ ?_ | with_reducible refine Le.bind ?_ fun _ => ?_
theorem Mli_deriveSingle : ∀ k : Nat, ∀ (p : List Int) (outs : List Int) (i : Int), Le ((l202 k) p outs i) ((l202 (k + 1)) p outs i)
  | 0 => fun p outs i => Le.no _
  | k + 1 => by
    have h := Mli_deriveSingle k
    exact fun p outs i => MFi_deriveSingle_1003 k h p outs i
noncomputable def i_deriveSingle_1003 (p : List Int) (outs : List Int) (i : Int) : Option (List (Int)) := lim fun k => (l202 k) p outs i
theorem Rli_deriveSingle_1003 (p : List Int) (outs : List Int) (i : Int) : Lim (fun k => (l202 k) p outs i) (i_deriveSingle_1003 p outs i) := Lim.of_mono fun k => Mli_deriveSingle k p outs i
theorem Ei_deriveSingle_1003 (p : List Int) (outs : List Int) (i : Int) : i_deriveSingle_1003 p outs i =
  bif decide (i < (↑(List.length p) : Int)) then
    bif boundA i (List.length p) then
      bif decide ((List.length outs + List.length [IntKind.wrap IntKind.i64 (i * List.getD p (Int.toNat i) 0)]) * 8 ≤ 140737488355328) then
        i_deriveSingle_1003 p (outs ++ [IntKind.wrap IntKind.i64 (i * List.getD p (Int.toNat i) 0)]) (IntKind.wrap IntKind.i64 (i + 1))
      else
        none
    else
      none
  else
    (i_stripped outs).bind fun r0 =>
    some r0 := by
  refine Lim.uniq (Lim.shift (Rli_deriveSingle_1003 p outs i)) (?_ : Lim (fun k => F202_1003 k ((l202 k)) p outs i) _)
  unfold F202_1003
  repeat' first | with_reducible exact Lim.ret _ | with_reducible exact Ri_stripped _ | with_reducible exact Rli_deriveSingle_1003 _ _ _ | with_reducible refine Lim.cond ?_ ?_ | with_reducible refine Lim.bind ?_ fun _ => ?_
noncomputable def i_deriveSingle (p : List (Int)) : Option (List (Int)) :=
  i_deriveSingle_1003 p ([]) (1)
theorem Mi_deriveSingle (k : Nat) (p : List (Int)) : Le (f202 k p) (f202 (k + 1) p) := by
  have h := Mli_deriveSingle k
  unfold f202 F202
  repeat' first | with_reducible exact Le.rfl _ | with_reducible exact h _ _ _ | with_reducible refine Le.cond ?_ ?_ | with_reducible refine Le.bind ?_ fun _ => ?_
theorem Ri_deriveSingle (p : List (Int)) : Lim (fun k => f202 k p) (i_deriveSingle p) := by
  unfold f202 F202 i_deriveSingle
  repeat' first | with_reducible exact Lim.ret _ | with_reducible exact Rli_deriveSingle_1003 _ _ _ | with_reducible refine Lim.cond ?_ ?_ | with_reducible refine Lim.bind ?_ fun _ => ?_

-- impl.powerSingle
theorem MFi_powerSingle_1003 (k : Nat) {r1003 q1003 : List Int → List Int → Int → Int → Option (List (Int))} (h1003 : ∀ (p : List Int) (outs : List Int) (t7 : Int) (t8 : Int), Le (r1003 p outs t7 t8) (q1003 p outs t7 t8)) (p : List Int) (outs : List Int) (t7 : Int) (t8 : Int) : Le (F249_1003 k r1003 p outs t7 t8) (F249_1003 (k + 1) q1003 p outs t7 t8) := by
  unfold F249_1003
  repeat' first | with_reducible exact Le.rfl _ | with_reducible exact Mi_multiplySingle _ _ _ | with_reducible exact h1003 _ _ _ _ | with_reducible refine Le.cond ?_ ?_ | with_reducible refine Le.bind ?_ fun _ => ?_
theorem Mli_powerSingle : ∀ k : Nat, ∀ (p : List Int) (outs : List Int) (t7 : Int) (t8 : Int), Le ((l249 k) p outs t7 t8) ((l249 (k + 1)) p outs t7 t8)
  | 0 => fun p outs t7 t8 => Le.no _
  | k + 1 => by
    have h := Mli_powerSingle k
    exact fun p outs t7 t8 => MFi_powerSingle_1003 k h p outs t7 t8
noncomputable def i_powerSingle_1003 (p : List Int) (outs : List Int) (t7 : Int) (t8 : Int) : Option (List (Int)) := lim fun k => (l249 k) p outs t7 t8
theorem Rli_powerSingle_1003 (p : List Int) (outs : List Int) (t7 : Int) (t8 : Int) : Lim (fun k => (l249 k) p outs t7 t8) (i_powerSingle_1003 p outs t7 t8) := Lim.of_mono fun k => Mli_powerSingle k p outs t7 t8
theorem Ei_powerSingle_1003 (p : List Int) (outs : List Int) (t7 : Int) (t8 : Int) : i_powerSingle_1003 p outs t7 t8 =
  bif decide (t8 < t7) then
    (i_multiplySingle outs p).bind fun r0 =>
    i_powerSingle_1003 p r0 t7 (IntKind.wrap IntKind.i64 (t8 + 1))
  else
    some outs := by
  refine Lim.uniq (Lim.shift (Rli_powerSingle_1003 p outs t7 t8)) (?_ : Lim (fun k => F249_1003 k ((l249 k)) p outs t7 t8) _)
  unfold F249_1003
  repeat' first | with_reducible exact Lim.ret _ | with_reducible exact Ri_multiplySingle _ _ | with_reducible exact Rli_powerSingle_1003 _ _ _ _ | with_reducible refine Lim.cond ?_ ?_ | with_reducible refine Lim.bind ?_ fun _ => ?_
noncomputable def i_powerSingle (p : List (Int)) (n : Int) : Option (List (Int)) :=
  i_powerSingle_1003 p ([1]) n (0)
theorem Mi_powerSingle (k : Nat) (p : List (Int)) (n : Int) : Le (f249 k p n) (f249 (k + 1) p n) := by
  have h := Mli_powerSingle k
  unfold f249 F249
  repeat' first | with_reducible exact Le.rfl _ | with_reducible exact h _ _ _ _ | with_reducible refine Le.cond ?_ ?_ | with_reducible refine Le.bind ?_ fun _ => ?_
theorem Ri_powerSingle (p : List (Int)) (n : Int) : Lim (fun k => f249 k p n) (i_powerSingle p n) := by
  unfold f249 F249 i_powerSingle
  repeat' first | with_reducible exact Lim.ret _ | with_reducible exact Rli_powerSingle_1003 _ _ _ _ | with_reducible refine Lim.cond ?_ ?_ | with_reducible refine Lim.bind ?_ fun _ => ?_

-- impl.overInterval
theorem MFi_overInterval_1005 (k : Nat) {r1005 q1005 : List Int → Int → Int → Int → List Int → List Int → Int → Int → Option (List (Int))} (h1005 : ∀ (L : List Int) (o : Int) (A : Int) (r : Int) (r_9s : List Int) (t40 : List Int) (t41 : Int) (t42 : Int), Le (r1005 L o A r r_9s t40 t41 t42) (q1005 L o A r r_9s t40 t41 t42)) {r1010 q1010 : List Int → List Int → Option (List (Int))} (h1010 : ∀ (L : List Int) (rs : List Int), Le (r1010 L rs) (q1010 L rs)) (L : List Int) (o : Int) (A : Int) (r : Int) (r_9s : List Int) (t40 : List Int) (t41 : Int) (t42 : Int) : Le (F203_1005 k r1005 r1010 L o A r r_9s t40 t41 t42) (F203_1005 (k + 1) q1005 q1010 L o A r r_9s t40 t41 t42) := by
  unfold F203_1005
  repeat' first | with_reducible exact Le.rfl _ | with_reducible exact Mi_addSingle _ _ _ | with_reducible exact Mi_multiplySingle _ _ _ | with_reducible exact Mi_powerSingle _ _ _ | with_reducible exact h1005 _ _ _ _ _ _ _ _ | with_reducible exact h1010 _ _ | with_reducible refine Le.cond ?_ ?_ | with_reducible refine Le.bind ?_ fun _ => ?_
theorem MFi_overInterval_1010 (k : Nat) {r1005 q1005 : List Int → Int → Int → Int → List Int → List Int → Int → Int → Option (List (Int))} (h1005 : ∀ (L : List Int) (o : Int) (A : Int) (r : Int) (r_9s : List Int) (t40 : List Int) (t41 : Int) (t42 : Int), Le (r1005 L o A r r_9s t40 t41 t42) (q1005 L o A r r_9s t40 t41 t42)) {r1010 q1010 : List Int → List Int → Option (List (Int))} (h1010 : ∀ (L : List Int) (rs : List Int), Le (r1010 L rs) (q1010 L rs)) (L : List Int) (rs : List Int) : Le (F203_1010 k r1005 r1010 L rs) (F203_1010 (k + 1) q1005 q1010 L rs) := by
  unfold F203_1010
  repeat' first | with_reducible exact Le.rfl _ | with_reducible exact h1005 _ _ _ _ _ _ _ _ | with_reducible exact h1010 _ _ | with_reducible refine Le.cond ?_ ?_ | with_reducible refine Le.bind ?_ fun _ => ?_
theorem Mli_overInterval : ∀ k : Nat, (∀ (L : List Int) (o : Int) (A : Int) (r : Int) (r_9s : List Int) (t40 : List Int) (t41 : Int) (t42 : Int), Le ((l203 k).1 L o A r r_9s t40 t41 t42) ((l203 (k + 1)).1 L o A r r_9s t40 t41 t42)) ∧ (∀ (L : List Int) (rs : List Int), Le ((l203 k).2 L rs) ((l203 (k + 1)).2 L rs))
  | 0 => ⟨fun L o A r r_9s t40 t41 t42 => Le.no _, fun L rs => Le.no _⟩
  | k + 1 => by
    have h := Mli_overInterval k
    exact ⟨fun L o A r r_9s t40 t41 t42 => MFi_overInterval_1005 k h.1 h.2 L o A r r_9s t40 t41 t42, fun L rs => MFi_overInterval_1010 k h.1 h.2 L rs⟩
noncomputable def i_overInterval_1005 (L : List Int) (o : Int) (A : Int) (r : Int) (r_9s : List Int) (t40 : List Int) (t41 : Int) (t42 : Int) : Option (List (Int)) := lim fun k => (l203 k).1 L o A r r_9s t40 t41 t42
theorem Rli_overInterval_1005 (L : List Int) (o : Int) (A : Int) (r : Int) (r_9s : List Int) (t40 : List Int) (t41 : Int) (t42 : Int) : Lim (fun k => (l203 k).1 L o A r r_9s t40 t41 t42) (i_overInterval_1005 L o A r r_9s t40 t41 t42) := Lim.of_mono fun k => (Mli_overInterval k).1 L o A r r_9s t40 t41 t42
noncomputable def i_overInterval_1010 (L : List Int) (rs : List Int) : Option (List (Int)) := lim fun k => (l203 k).2 L rs
theorem Rli_overInterval_1010 (L : List Int) (rs : List Int) : Lim (fun k => (l203 k).2 L rs) (i_overInterval_1010 L rs) := Lim.of_mono fun k => (Mli_overInterval k).2 L rs
theorem Ei_overInterval_1005 (L : List Int) (o : Int) (A : Int) (r : Int) (r_9s : List Int) (t40 : List Int) (t41 : Int) (t42 : Int) : i_overInterval_1005 L o A r r_9s t40 t41 t42 =
  bif decide (t42 < t41) then
    bif boundA t42 (List.length t40) then
      (i_powerSingle [o, A] t42).bind fun r0 =>
      (i_powerSingle [r, r] (IntKind.wrap IntKind.i64 (IntKind.wrap IntKind.i64 ((↑(List.length L) : Int) - 1) - t42))).bind fun r1 =>
      (i_multiplySingle r0 r1).bind fun r2 =>
      (i_multiplySingle r2 [List.getD t40 (Int.toNat t42) 0]).bind fun r3 =>
      (i_addSingle r_9s r3).bind fun r4 =>
      i_overInterval_1005 L o A r r4 t40 t41 (IntKind.wrap IntKind.i64 (t42 + 1))
    else
      none
  else
    i_overInterval_1010 L r_9s := by
  refine Lim.uniq (Lim.shift (Rli_overInterval_1005 L o A r r_9s t40 t41 t42)) (?_ : Lim (fun k => F203_1005 k ((l203 k).1) ((l203 k).2) L o A r r_9s t40 t41 t42) _)
  unfold F203_1005
  repeat' first | with_reducible exact Lim.ret _ | with_reducible exact Ri_addSingle _ _ | with_reducible exact Ri_multiplySingle _ _ | with_reducible exact Ri_powerSingle _ _ | with_reducible exact Rli_overInterval_1005 _ _ _ _ _ _ _ _ | with_reducible exact Rli_overInterval_1010 _ _ | with_reducible refine Lim.cond ?_ ?_ | with_reducible refine Lim.bind ?_ fun _ => ?_
theorem Ei_overInterval_1010 (L : List Int) (rs : List Int) : i_overInterval_1010 L rs =
  bif decide ((↑(List.length rs) : Int) < (↑(List.length L) : Int)) then
    bif decide ((List.length rs + List.length [0]) * 8 ≤ 140737488355328) then
      i_overInterval_1010 L (rs ++ [0])
    else
      none
  else
    some rs := by
  refine Lim.uniq (Lim.shift (Rli_overInterval_1010 L rs)) (?_ : Lim (fun k => F203_1010 k ((l203 k).1) ((l203 k).2) L rs) _)
  unfold F203_1010
  repeat' first | with_reducible exact Lim.ret _ | with_reducible exact Rli_overInterval_1005 _ _ _ _ _ _ _ _ | with_reducible exact Rli_overInterval_1010 _ _ | with_reducible refine Lim.cond ?_ ?_ | with_reducible refine Lim.bind ?_ fun _ => ?_
noncomputable def i_overInterval (L : List (Int)) (i_Low_N : Int) (i_Low_K : Int) (i_High_N : Int) (i_High_K : Int) : Option (List (Int)) :=
  bif !decide (IntKind.wrap IntKind.i64 ((bif decide (i_Low_K < i_High_K) then i_High_K else i_Low_K) - i_Low_K) < 0) then
    bif !decide (IntKind.wrap IntKind.i64 ((bif decide (i_Low_K < i_High_K) then i_High_K else i_Low_K) - i_High_K) < 0) then
      bif !decide ((bif decide (i_Low_K < i_High_K) then i_High_K else i_Low_K) < 0) then
        i_overInterval_1005 L (IntKind.wrap IntKind.i64 (i_Low_N * 2 ^ min (Int.toNat (IntKind.wrap IntKind.i64 ((bif decide (i_Low_K < i_High_K) then i_High_K else i_Low_K) - i_Low_K))) (IntKind.bits IntKind.i64))) (IntKind.wrap IntKind.i64 (i_High_N * 2 ^ min (Int.toNat (IntKind.wrap IntKind.i64 ((bif decide (i_Low_K < i_High_K) then i_High_K else i_Low_K) - i_High_K))) (IntKind.bits IntKind.i64))) (IntKind.wrap IntKind.i64 (1 * 2 ^ min (Int.toNat (bif decide (i_Low_K < i_High_K) then i_High_K else i_Low_K)) (IntKind.bits IntKind.i64))) ([]) L ((↑(List.length L) : Int)) (0)
      else
        none
    else
      none
  else
    none
theorem Mi_overInterval (k : Nat) (L : List (Int)) (i_Low_N : Int) (i_Low_K : Int) (i_High_N : Int) (i_High_K : Int) : Le (f203 k L i_Low_N i_Low_K i_High_N i_High_K) (f203 (k + 1) L i_Low_N i_Low_K i_High_N i_High_K) := by
  have h := Mli_overInterval k
  unfold f203 F203
  repeat' first | with_reducible exact Le.rfl _ | with_reducible exact h.1 _ _ _ _ _ _ _ _ | with_reducible exact h.2 _ _ | with_reducible refine Le.cond ?_ ?_ | with_reducible refine Le.bind ?_ fun _ => ?_
theorem Ri_overInterval (L : List (Int)) (i_Low_N : Int) (i_Low_K : Int) (i_High_N : Int) (i_High_K : Int) : Lim (fun k => f203 k L i_Low_N i_Low_K i_High_N i_High_K) (i_overInterval L i_Low_N i_Low_K i_High_N i_High_K) := by
  unfold f203 F203 i_overInterval
  repeat' first | with_reducible exact Lim.ret _ | with_reducible exact Rli_overInterval_1005 _ _ _ _ _ _ _ _ | with_reducible exact Rli_overInterval_1010 _ _ | with_reducible refine Lim.cond ?_ ?_ | with_reducible refine Lim.bind ?_ fun _ => ?_

-- slices.Min[[]int,int]
theorem MFslices_Min_int_int_1005 (k : Nat) {r1005 q1005 : List Int → Int → Int → Option (Int)} (h1005 : ∀ (x : List Int) (m : Int) (i : Int), Le (r1005 x m i) (q1005 x m i)) (x : List Int) (m : Int) (i : Int) : Le (F250_1005 k r1005 x m i) (F250_1005 (k + 1) q1005 x m i) := by
  unfold F250_1005
  repeat' first | with_reducible exact Le.rfl _ | with_reducible exact h1005 _ _ _ | with_reducible refine Le.cond ?_ ?_ | with_reducible refine Le.bind ?_ fun _ => ?_
theorem Mlslices_Min_int_int : ∀ k : Nat, ∀ (x : List Int) (m : Int) (i : Int), Le ((l250 k) x m i) ((l250 (k + 1)) x m i)
  | 0 => fun x m i => Le.no _
  | k + 1 => by
    have h := Mlslices_Min_int_int k
    exact fun x m i => MFslices_Min_int_int_1005 k h x m i
noncomputable def slices_Min_int_int_1005 (x : List Int) (m : Int) (i : Int) : Option (Int) := lim fun k => (l250 k) x m i
theorem Rlslices_Min_int_int_1005 (x : List Int) (m : Int) (i : Int) : Lim (fun k => (l250 k) x m i) (slices_Min_int_int_1005 x m i) := Lim.of_mono fun k => Mlslices_Min_int_int k x m i
theorem Eslices_Min_int_int_1005 (x : List Int) (m : Int) (i : Int) : slices_Min_int_int_1005 x m i =
  bif decide (i < (↑(List.length x) : Int)) then
    bif boundA i (List.length x) then
      slices_Min_int_int_1005 x (bif decide (List.getD x (Int.toNat i) 0 < m) then List.getD x (Int.toNat i) 0 else m) (IntKind.wrap IntKind.i64 (i + 1))
    else
      none
  else
    some m := by
  refine Lim.uniq (Lim.shift (Rlslices_Min_int_int_1005 x m i)) (?_ : Lim (fun k => F250_1005 k ((l250 k)) x m i) _)
  unfold F250_1005
  repeat' first | with_reducible exact Lim.ret _ | with_reducible exact Rlslices_Min_int_int_1005 _ _ _ | with_reducible refine Lim.cond ?_ ?_ | with_reducible refine Lim.bind ?_ fun _ => ?_
noncomputable def slices_Min_int_int (x : List (Int)) : Option (Int) :=
  bif decide ((↑(List.length x) : Int) < 1) then
    none
  else
    bif boundA 0 (List.length x) then
      slices_Min_int_int_1005 x (List.getD x (Int.toNat 0) 0) (1)
    else
      none
theorem Mslices_Min_int_int (k : Nat) (x : List (Int)) : Le (f250 k x) (f250 (k + 1) x) := by
  have h := Mlslices_Min_int_int k
  unfold f250 F250
  repeat' first | with_reducible exact Le.rfl _ | with_reducible exact h _ _ _ | with_reducible refine Le.cond ?_ ?_ | with_reducible refine Le.bind ?_ fun _ => ?_
theorem Rslices_Min_int_int (x : List (Int)) : Lim (fun k => f250 k x) (slices_Min_int_int x) := by
  unfold f250 F250 slices_Min_int_int
  repeat' first | with_reducible exact Lim.ret _ | with_reducible exact Rlslices_Min_int_int_1005 _ _ _ | with_reducible refine Lim.cond ?_ ?_ | with_reducible refine Lim.bind ?_ fun _ => ?_

-- slices.Max[[]int,int]
theorem MFslices_Max_int_int_1005 (k : Nat) {r1005 q1005 : List Int → Int → Int → Option (Int)} (h1005 : ∀ (x : List Int) (m : Int) (i : Int), Le (r1005 x m i) (q1005 x m i)) (x : List Int) (m : Int) (i : Int) : Le (F251_1005 k r1005 x m i) (F251_1005 (k + 1) q1005 x m i) := by
  unfold F251_1005
  repeat' first | with_reducible exact Le.rfl _ | with_reducible exact h1005 _ _ _ | with_reducible refine Le.cond ?_ ?_ | with_reducible refine Le.bind ?_ fun _ => ?_
theorem Mlslices_Max_int_int : ∀ k : Nat, ∀ (x : List Int) (m : Int) (i : Int), Le ((l251 k) x m i) ((l251 (k + 1)) x m i)
  | 0 => fun x m i => Le.no _
  | k + 1 => by
    have h := Mlslices_Max_int_int k
    exact fun x m i => MFslices_Max_int_int_1005 k h x m i
noncomputable def slices_Max_int_int_1005 (x : List Int) (m : Int) (i : Int) : Option (Int) := lim fun k => (l251 k) x m i
theorem Rlslices_Max_int_int_1005 (x : List Int) (m : Int) (i : Int) : Lim (fun k => (l251 k) x m i) (slices_Max_int_int_1005 x m i) := Lim.of_mono fun k => Mlslices_Max_int_int k x m i
theorem Eslices_Max_int_int_1005 (x : List Int) (m : Int) (i : Int) : slices_Max_int_int_1005 x m i =
  bif decide (i < (↑(List.length x) : Int)) then
    bif boundA i (List.length x) then
      slices_Max_int_int_1005 x (bif decide (m < List.getD x (Int.toNat i) 0) then List.getD x (Int.toNat i) 0 else m) (IntKind.wrap IntKind.i64 (i + 1))
    else
      none
  else
    some m := by
  refine Lim.uniq (Lim.shift (Rlslices_Max_int_int_1005 x m i)) (?_ : Lim (fun k => F251_1005 k ((l251 k)) x m i) _)
  unfold F251_1005
  repeat' first | with_reducible exact Lim.ret _ | with_reducible exact Rlslices_Max_int_int_1005 _ _ _ | with_reducible refine Lim.cond ?_ ?_ | with_reducible refine Lim.bind ?_ fun _ => ?_
noncomputable def slices_Max_int_int (x : List (Int)) : Option (Int) :=
  bif decide ((↑(List.length x) : Int) < 1) then
    none
  else
    bif boundA 0 (List.length x) then
      slices_Max_int_int_1005 x (List.getD x (Int.toNat 0) 0) (1)
    else
      none
theorem Mslices_Max_int_int (k : Nat) (x : List (Int)) : Le (f251 k x) (f251 (k + 1) x) := by
  have h := Mlslices_Max_int_int k
  unfold f251 F251
  repeat' first | with_reducible exact Le.rfl _ | with_reducible exact h _ _ _ | with_reducible refine Le.cond ?_ ?_ | with_reducible refine Le.bind ?_ fun _ => ?_
theorem Rslices_Max_int_int (x : List (Int)) : Lim (fun k => f251 k x) (slices_Max_int_int x) := by
  unfold f251 F251 slices_Max_int_int
  repeat' first | with_reducible exact Lim.ret _ | with_reducible exact Rlslices_Max_int_int_1005 _ _ _ | with_reducible refine Lim.cond ?_ ?_ | with_reducible refine Lim.bind ?_ fun _ => ?_

-- impl.commonSign
noncomputable def i_commonSign (list : List (Int)) : Option (Int) :=
  (slices_Min_int_int list).bind fun r0 =>
  bif decide (0 < r0) then
    some (1)
  else
    (slices_Max_int_int list).bind fun r1 =>
    bif decide (r1 < 0) then
      some (-1)
    else
      some (0)
theorem Mi_commonSign (k : Nat) (list : List (Int)) : Le (f204 k list) (f204 (k + 1) list) := by
  unfold f204
  repeat' first | with_reducible exact Le.rfl _ | with_reducible exact Mslices_Min_int_int _ _ | with_reducible exact Mslices_Max_int_int _ _ | with_reducible refine Le.cond ?_ ?_ | with_reducible refine Le.bind ?_ fun _ => ?_
theorem Ri_commonSign (list : List (Int)) : Lim (fun k => f204 k list) (i_commonSign list) := by
  unfold f204 i_commonSign
  repeat' first | with_reducible exact Lim.ret _ | with_reducible exact Rslices_Min_int_int _ | with_reducible exact Rslices_Max_int_int _ | with_reducible refine Lim.cond ?_ ?_ | with_reducible refine Lim.bind ?_ fun _ => ?_

-- impl.slopeSign
theorem MFi_slopeSign_1003 (k : Nat) {r1003 q1003 : List Int → List Int → Int → Int → Int → Int → Int → Int → List Int → Int → Option (Int)} (h1003 : ∀ (p : List Int) (q : List Int) (i : Int) (fine : Int) (xs_0 : Int) (xs_1 : Int) (xs_2 : Int) (xs_3 : Int) (alls : List Int) (moment : Int), Le (r1003 p q i fine xs_0 xs_1 xs_2 xs_3 alls moment) (q1003 p q i fine xs_0 xs_1 xs_2 xs_3 alls moment)) {r1006 q1006 : List Int → List Int → Int → Int → Int → Int → Int → Int → List Int → Int → List Int → Option (Int)} (h1006 : ∀ (p : List Int) (q : List Int) (i : Int) (fine : Int) (xs_0 : Int) (xs_1 : Int) (xs_2 : Int) (xs_3 : Int) (alls : List Int) (moment : Int) (ds : List Int), Le (r1006 p q i fine xs_0 xs_1 xs_2 xs_3 alls moment ds) (q1006 p q i fine xs_0 xs_1 xs_2 xs_3 alls moment ds)) (p : List Int) (q : List Int) (i : Int) (fine : Int) (xs_0 : Int) (xs_1 : Int) (xs_2 : Int) (xs_3 : Int) (alls : List Int) (moment : Int) : Le (F138_1003 k r1003 r1006 p q i fine xs_0 xs_1 xs_2 xs_3 alls moment) (F138_1003 (k + 1) q1003 q1006 p q i fine xs_0 xs_1 xs_2 xs_3 alls moment) := by
  unfold F138_1003
  repeat' first | with_reducible exact Le.rfl _ | with_reducible exact Mi_deriveSingle _ _ | with_reducible exact Mi_commonSign _ _ | with_reducible exact Mi_familyAt _ _ _ _ _ | with_reducible exact h1003 _ _ _ _ _ _ _ _ _ _ | with_reducible exact h1006 _ _ _ _ _ _ _ _ _ _ _ | with_reducible refine Le.cond ?_ ?_ | with_reducible refine Le.bind ?_ fun _ => ?_
theorem MFi_slopeSign_1006 (k : Nat) {r1003 q1003 : List Int → List Int → Int → Int → Int → Int → Int → Int → List Int → Int → Option (Int)} (h1003 : ∀ (p : List Int) (q : List Int) (i : Int) (fine : Int) (xs_0 : Int) (xs_1 : Int) (xs_2 : Int) (xs_3 : Int) (alls : List Int) (moment : Int), Le (r1003 p q i fine xs_0 xs_1 xs_2 xs_3 alls moment) (q1003 p q i fine xs_0 xs_1 xs_2 xs_3 alls moment)) {r1006 q1006 : List Int → List Int → Int → Int → Int → Int → Int → Int → List Int → Int → List Int → Option (Int)} (h1006 : ∀ (p : List Int) (q : List Int) (i : Int) (fine : Int) (xs_0 : Int) (xs_1 : Int) (xs_2 : Int) (xs_3 : Int) (alls : List Int) (moment : Int) (ds : List Int), Le (r1006 p q i fine xs_0 xs_1 xs_2 xs_3 alls moment ds) (q1006 p q i fine xs_0 xs_1 xs_2 xs_3 alls moment ds)) (p : List Int) (q : List Int) (i : Int) (fine : Int) (xs_0 : Int) (xs_1 : Int) (xs_2 : Int) (xs_3 : Int) (alls : List Int) (moment : Int) (ds : List Int) : Le (F138_1006 k r1003 r1006 p q i fine xs_0 xs_1 xs_2 xs_3 alls moment ds) (F138_1006 (k + 1) q1003 q1006 p q i fine xs_0 xs_1 xs_2 xs_3 alls moment ds) := by
  unfold F138_1006
  repeat' first | with_reducible exact Le.rfl _ | with_reducible exact Mi_overInterval _ _ _ _ _ _ | with_reducible exact h1003 _ _ _ _ _ _ _ _ _ _ | with_reducible exact h1006 _ _ _ _ _ _ _ _ _ _ _ | with_reducible refine Le.cond ?_ ?_ | with_reducible refine Le.bind ?_ fun _ => ?_
theorem Mli_slopeSign : ∀ k : Nat, (∀ (p : List Int) (q : List Int) (i : Int) (fine : Int) (xs_0 : Int) (xs_1 : Int) (xs_2 : Int) (xs_3 : Int) (alls : List Int) (moment : Int), Le ((l138 k).1 p q i fine xs_0 xs_1 xs_2 xs_3 alls moment) ((l138 (k + 1)).1 p q i fine xs_0 xs_1 xs_2 xs_3 alls moment)) ∧ (∀ (p : List Int) (q : List Int) (i : Int) (fine : Int) (xs_0 : Int) (xs_1 : Int) (xs_2 : Int) (xs_3 : Int) (alls : List Int) (moment : Int) (ds : List Int), Le ((l138 k).2 p q i fine xs_0 xs_1 xs_2 xs_3 alls moment ds) ((l138 (k + 1)).2 p q i fine xs_0 xs_1 xs_2 xs_3 alls moment ds))
  | 0 => ⟨fun p q i fine xs_0 xs_1 xs_2 xs_3 alls moment => Le.no _, fun p q i fine xs_0 xs_1 xs_2 xs_3 alls moment ds => Le.no _⟩
  | k + 1 => by
    have h := Mli_slopeSign k
    exact ⟨fun p q i fine xs_0 xs_1 xs_2 xs_3 alls moment => MFi_slopeSign_1003 k h.1 h.2 p q i fine xs_0 xs_1 xs_2 xs_3 alls moment, fun p q i fine xs_0 xs_1 xs_2 xs_3 alls moment ds => MFi_slopeSign_1006 k h.1 h.2 p q i fine xs_0 xs_1 xs_2 xs_3 alls moment ds⟩
noncomputable def i_slopeSign_1003 (p : List Int) (q : List Int) (i : Int) (fine : Int) (xs_0 : Int) (xs_1 : Int) (xs_2 : Int) (xs_3 : Int) (alls : List Int) (moment : Int) : Option (Int) := lim fun k => (l138 k).1 p q i fine xs_0 xs_1 xs_2 xs_3 alls moment
theorem Rli_slopeSign_1003 (p : List Int) (q : List Int) (i : Int) (fine : Int) (xs_0 : Int) (xs_1 : Int) (xs_2 : Int) (xs_3 : Int) (alls : List Int) (moment : Int) : Lim (fun k => (l138 k).1 p q i fine xs_0 xs_1 xs_2 xs_3 alls moment) (i_slopeSign_1003 p q i fine xs_0 xs_1 xs_2 xs_3 alls moment) := Lim.of_mono fun k => (Mli_slopeSign k).1 p q i fine xs_0 xs_1 xs_2 xs_3 alls moment
noncomputable def i_slopeSign_1006 (p : List Int) (q : List Int) (i : Int) (fine : Int) (xs_0 : Int) (xs_1 : Int) (xs_2 : Int) (xs_3 : Int) (alls : List Int) (moment : Int) (ds : List Int) : Option (Int) := lim fun k => (l138 k).2 p q i fine xs_0 xs_1 xs_2 xs_3 alls moment ds
theorem Rli_slopeSign_1006 (p : List Int) (q : List Int) (i : Int) (fine : Int) (xs_0 : Int) (xs_1 : Int) (xs_2 : Int) (xs_3 : Int) (alls : List Int) (moment : Int) (ds : List Int) : Lim (fun k => (l138 k).2 p q i fine xs_0 xs_1 xs_2 xs_3 alls moment ds) (i_slopeSign_1006 p q i fine xs_0 xs_1 xs_2 xs_3 alls moment ds) := Lim.of_mono fun k => (Mli_slopeSign k).2 p q i fine xs_0 xs_1 xs_2 xs_3 alls moment ds
theorem Ei_slopeSign_1003 (p : List Int) (q : List Int) (i : Int) (fine : Int) (xs_0 : Int) (xs_1 : Int) (xs_2 : Int) (xs_3 : Int) (alls : List Int) (moment : Int) : i_slopeSign_1003 p q i fine xs_0 xs_1 xs_2 xs_3 alls moment =
  bif decide (moment ≤ IntKind.wrap IntKind.i64 (i + 1)) then
    (i_familyAt p q moment fine).bind fun r0 =>
    (i_deriveSingle r0).bind fun r1 =>
    i_slopeSign_1006 p q i fine xs_0 xs_1 xs_2 xs_3 alls moment r1
  else
    (i_commonSign alls).bind fun r2 =>
    some r2 := by
  refine Lim.uniq (Lim.shift (Rli_slopeSign_1003 p q i fine xs_0 xs_1 xs_2 xs_3 alls moment)) (?_ : Lim (fun k => F138_1003 k ((l138 k).1) ((l138 k).2) p q i fine xs_0 xs_1 xs_2 xs_3 alls moment) _)
  unfold F138_1003
  repeat' first | with_reducible exact Lim.ret _ | with_reducible exact Ri_deriveSingle _ | with_reducible exact Ri_commonSign _ | with_reducible exact Ri_familyAt _ _ _ _ | with_reducible exact Rli_slopeSign_1003 _ _ _ _ _ _ _ _ _ _ | with_reducible exact Rli_slopeSign_1006 _ _ _ _ _ _ _ _ _ _ _ | with_reducible refine Lim.cond ?_ ?_ | with_reducible refine Lim.bind ?_ fun _ => ?_
theorem Ei_slopeSign_1006 (p : List Int) (q : List Int) (i : Int) (fine : Int) (xs_0 : Int) (xs_1 : Int) (xs_2 : Int) (xs_3 : Int) (alls : List Int) (moment : Int) (ds : List Int) : i_slopeSign_1006 p q i fine xs_0 xs_1 xs_2 xs_3 alls moment ds =
  bif decide ((↑(List.length ds) : Int) < 5) then
    bif decide ((List.length ds + List.length [0]) * 8 ≤ 140737488355328) then
      i_slopeSign_1006 p q i fine xs_0 xs_1 xs_2 xs_3 alls moment (ds ++ [0])
    else
      none
  else
    (i_overInterval ds xs_0 xs_1 xs_2 xs_3).bind fun r0 =>
    bif decide ((List.length alls + List.length r0) * 8 ≤ 140737488355328) then
      i_slopeSign_1003 p q i fine xs_0 xs_1 xs_2 xs_3 (alls ++ r0) (IntKind.wrap IntKind.i64 (moment + 1))
    else
      none := by
  refine Lim.uniq (Lim.shift (Rli_slopeSign_1006 p q i fine xs_0 xs_1 xs_2 xs_3 alls moment ds)) (?_ : Lim (fun k => F138_1006 k ((l138 k).1) ((l138 k).2) p q i fine xs_0 xs_1 xs_2 xs_3 alls moment ds) _)
  unfold F138_1006
  repeat' first | with_reducible exact Lim.ret _ | with_reducible exact Ri_overInterval _ _ _ _ _ | with_reducible exact Rli_slopeSign_1003 _ _ _ _ _ _ _ _ _ _ | with_reducible exact Rli_slopeSign_1006 _ _ _ _ _ _ _ _ _ _ _ | with_reducible refine Lim.cond ?_ ?_ | with_reducible refine Lim.bind ?_ fun _ => ?_
noncomputable def i_slopeSign (p : List (Int)) (q : List (Int)) (x_Low_N : Int) (x_Low_K : Int) (x_High_N : Int) (x_High_K : Int) (i : Int) (fine : Int) : Option (Int) :=
  i_slopeSign_1003 p q i fine x_Low_N x_Low_K x_High_N x_High_K ([]) i
theorem Mi_slopeSign (k : Nat) (p : List (Int)) (q : List (Int)) (x_Low_N : Int) (x_Low_K : Int) (x_High_N : Int) (x_High_K : Int) (i : Int) (fine : Int) : Le (f138 k p q x_Low_N x_Low_K x_High_N x_High_K i fine) (f138 (k + 1) p q x_Low_N x_Low_K x_High_N x_High_K i fine) := by
  have h := Mli_slopeSign k
  unfold f138 F138
  repeat' first | with_reducible exact Le.rfl _ | with_reducible exact h.1 _ _ _ _ _ _ _ _ _ _ | with_reducible exact h.2 _ _ _ _ _ _ _ _ _ _ _ | with_reducible refine Le.cond ?_ ?_ | with_reducible refine Le.bind ?_ fun _ => ?_
theorem Ri_slopeSign (p : List (Int)) (q : List (Int)) (x_Low_N : Int) (x_Low_K : Int) (x_High_N : Int) (x_High_K : Int) (i : Int) (fine : Int) : Lim (fun k => f138 k p q x_Low_N x_Low_K x_High_N x_High_K i fine) (i_slopeSign p q x_Low_N x_Low_K x_High_N x_High_K i fine) := by
  unfold f138 F138 i_slopeSign
  repeat' first | with_reducible exact Lim.ret _ | with_reducible exact Rli_slopeSign_1003 _ _ _ _ _ _ _ _ _ _ | with_reducible exact Rli_slopeSign_1006 _ _ _ _ _ _ _ _ _ _ _ | with_reducible refine Lim.cond ?_ ?_ | with_reducible refine Lim.bind ?_ fun _ => ?_

-- impl.stepHolds
noncomputable def i_stepHolds (p : List (Int)) (q : List (Int)) (x_Low_N : Int) (x_Low_K : Int) (x_High_N : Int) (x_High_K : Int) (i : Int) (fine : Int) : Option (Bool) :=
  (i_familySign p q x_Low_N x_Low_K i (IntKind.wrap IntKind.i64 (i + 1)) fine).bind fun r0 =>
  (i_familySign p q x_High_N x_High_K i (IntKind.wrap IntKind.i64 (i + 1)) fine).bind fun r1 =>
  bif decide (IntKind.wrap IntKind.i64 (r0 * r1) < 0) then
    (i_slopeSign p q x_Low_N x_Low_K x_High_N x_High_K i fine).bind fun r2 =>
    some (!decide (r2 = 0))
  else
    some false
theorem Mi_stepHolds (k : Nat) (p : List (Int)) (q : List (Int)) (x_Low_N : Int) (x_Low_K : Int) (x_High_N : Int) (x_High_K : Int) (i : Int) (fine : Int) : Le (f81 k p q x_Low_N x_Low_K x_High_N x_High_K i fine) (f81 (k + 1) p q x_Low_N x_Low_K x_High_N x_High_K i fine) := by
  unfold f81
  repeat' first | with_reducible exact Le.rfl _ | with_reducible exact Mi_familySign _ _ _ _ _ _ _ _ | with_reducible exact Mi_slopeSign _ _ _ _ _ _ _ _ _ | with_reducible refine Le.cond ?_ ?_ | with_reducible refine Le.bind ?_ fun _ => ?_
theorem Ri_stepHolds (p : List (Int)) (q : List (Int)) (x_Low_N : Int) (x_Low_K : Int) (x_High_N : Int) (x_High_K : Int) (i : Int) (fine : Int) : Lim (fun k => f81 k p q x_Low_N x_Low_K x_High_N x_High_K i fine) (i_stepHolds p q x_Low_N x_Low_K x_High_N x_High_K i fine) := by
  unfold f81 i_stepHolds
  repeat' first | with_reducible exact Lim.ret _ | with_reducible exact Ri_familySign _ _ _ _ _ _ _ | with_reducible exact Ri_slopeSign _ _ _ _ _ _ _ _ | with_reducible refine Lim.cond ?_ ?_ | with_reducible refine Lim.bind ?_ fun _ => ?_

-- impl.greater
noncomputable def i_greater (a_N : Int) (a_K : Int) (b_N : Int) (b_K : Int) : Option (Int × Int) :=
  (i_compareD b_N b_K a_N a_K).bind fun r0 =>
  bif decide (0 < r0) then
    some ((b_N, b_K))
  else
    some ((a_N, a_K))
theorem Mi_greater (k : Nat) (a_N : Int) (a_K : Int) (b_N : Int) (b_K : Int) : Le (f177 k a_N a_K b_N b_K) (f177 (k + 1) a_N a_K b_N b_K) := by
  unfold f177
  repeat' first | with_reducible exact Le.rfl _ | with_reducible exact Mi_compareD _ _ _ _ _ | with_reducible refine Le.cond ?_ ?_ | with_reducible refine Le.bind ?_ fun _ => ?_
theorem Ri_greater (a_N : Int) (a_K : Int) (b_N : Int) (b_K : Int) : Lim (fun k => f177 k a_N a_K b_N b_K) (i_greater a_N a_K b_N b_K) := by
  unfold f177 i_greater
  repeat' first | with_reducible exact Lim.ret _ | with_reducible exact Ri_compareD _ _ _ _ | with_reducible refine Lim.cond ?_ ?_ | with_reducible refine Lim.bind ?_ fun _ => ?_

-- impl.lesser
noncomputable def i_lesser (a_N : Int) (a_K : Int) (b_N : Int) (b_K : Int) : Option (Int × Int) :=
  (i_compareD b_N b_K a_N a_K).bind fun r0 =>
  bif decide (r0 < 0) then
    some ((b_N, b_K))
  else
    some ((a_N, a_K))
theorem Mi_lesser (k : Nat) (a_N : Int) (a_K : Int) (b_N : Int) (b_K : Int) : Le (f179 k a_N a_K b_N b_K) (f179 (k + 1) a_N a_K b_N b_K) := by
  unfold f179
  repeat' first | with_reducible exact Le.rfl _ | with_reducible exact Mi_compareD _ _ _ _ _ | with_reducible refine Le.cond ?_ ?_ | with_reducible refine Le.bind ?_ fun _ => ?_
theorem Ri_lesser (a_N : Int) (a_K : Int) (b_N : Int) (b_K : Int) : Lim (fun k => f179 k a_N a_K b_N b_K) (i_lesser a_N a_K b_N b_K) := by
  unfold f179 i_lesser
  repeat' first | with_reducible exact Lim.ret _ | with_reducible exact Ri_compareD _ _ _ _ | with_reducible refine Lim.cond ?_ ?_ | with_reducible refine Lim.bind ?_ fun _ => ?_

-- impl.commonPart
noncomputable def i_commonPart (i_Low_N : Int) (i_Low_K : Int) (i_High_N : Int) (i_High_K : Int) (k__Low_N : Int) (k__Low_K : Int) (k__High_N : Int) (k__High_K : Int) : Option (((Int × Int) × Int × Int) × Bool) :=
  (i_greater i_Low_N i_Low_K k__Low_N k__Low_K).bind fun r0 =>
  (i_lesser i_High_N i_High_K k__High_N k__High_K).bind fun r1 =>
  (i_compareD r0.fst r0.snd r1.fst r1.snd).bind fun r2 =>
  bif decide (0 < r2) then
    some ((((0, 0), 0, 0), false))
  else
    some ((((r0.fst, r0.snd), r1.fst, r1.snd), true))
theorem Mi_commonPart (k : Nat) (i_Low_N : Int) (i_Low_K : Int) (i_High_N : Int) (i_High_K : Int) (k__Low_N : Int) (k__Low_K : Int) (k__High_N : Int) (k__High_K : Int) : Le (f182 k i_Low_N i_Low_K i_High_N i_High_K k__Low_N k__Low_K k__High_N k__High_K) (f182 (k + 1) i_Low_N i_Low_K i_High_N i_High_K k__Low_N k__Low_K k__High_N k__High_K) := by
  unfold f182
  repeat' first | with_reducible exact Le.rfl _ | with_reducible exact Mi_greater _ _ _ _ _ | with_reducible exact Mi_lesser _ _ _ _ _ | with_reducible exact Mi_compareD _ _ _ _ _ | with_reducible refine Le.cond ?_ ?_ | with_reducible refine Le.bind ?_ fun _ => ?_
theorem Ri_commonPart (i_Low_N : Int) (i_Low_K : Int) (i_High_N : Int) (i_High_K : Int) (k__Low_N : Int) (k__Low_K : Int) (k__High_N : Int) (k__High_K : Int) : Lim (fun k => f182 k i_Low_N i_Low_K i_High_N i_High_K k__Low_N k__Low_K k__High_N k__High_K) (i_commonPart i_Low_N i_Low_K i_High_N i_High_K k__Low_N k__Low_K k__High_N k__High_K) := by
  unfold f182 i_commonPart
  repeat' first | with_reducible exact Lim.ret _ | with_reducible exact Ri_greater _ _ _ _ | with_reducible exact Ri_lesser _ _ _ _ | with_reducible exact Ri_compareD _ _ _ _ | with_reducible refine Lim.cond ?_ ?_ | with_reducible refine Lim.bind ?_ fun _ => ?_

-- impl.checkTrack
theorem MFi_checkTrack_1004 (k : Nat) {r1004 q1004 : List Int → List Int → List ((Int × Int) × Int × Int) → Int → List ((Int × Int) × Int × Int) → Int → Int → Option (Bool)} (h1004 : ∀ (L : List Int) (i : List Int) (s : List ((Int × Int) × Int × Int)) (t : Int) (t19 : List ((Int × Int) × Int × Int)) (t20 : Int) (t21 : Int), Le (r1004 L i s t t19 t20 t21) (q1004 L i s t t19 t20 t21)) (L : List Int) (i : List Int) (s : List ((Int × Int) × Int × Int)) (t : Int) (t19 : List ((Int × Int) × Int × Int)) (t20 : Int) (t21 : Int) : Le (F119_1004 k r1004 L i s t t19 t20 t21) (F119_1004 (k + 1) q1004 L i s t t19 t20 t21) := by
  unfold F119_1004
  repeat' first | with_reducible exact Le.rfl _ | with_reducible exact Mi_signAt _ _ _ _ | with_reducible exact Mi_commonPart _ _ _ _ _ _ _ _ _ | with_reducible exact Mi_isFit _ _ _ _ _ | with_reducible exact Mi_familyAt _ _ _ _ _ | with_reducible exact Mi_stepHolds _ _ _ _ _ _ _ _ _ | with_reducible exact h1004 _ _ _ _ _ _ _ | with_reducible refine Le.cond ?_ ?_ | with_reducible refine Le.bind ?_ fun _ => ?_
theorem Mli_checkTrack : ∀ k : Nat, ∀ (L : List Int) (i : List Int) (s : List ((Int × Int) × Int × Int)) (t : Int) (t19 : List ((Int × Int) × Int × Int)) (t20 : Int) (t21 : Int), Le ((l119 k) L i s t t19 t20 t21) ((l119 (k + 1)) L i s t t19 t20 t21)
  | 0 => fun L i s t t19 t20 t21 => Le.no _
  | k + 1 => by
    have h := Mli_checkTrack k
    exact fun L i s t t19 t20 t21 => MFi_checkTrack_1004 k h L i s t t19 t20 t21
noncomputable def i_checkTrack_1004 (L : List Int) (i : List Int) (s : List ((Int × Int) × Int × Int)) (t : Int) (t19 : List ((Int × Int) × Int × Int)) (t20 : Int) (t21 : Int) : Option (Bool) := lim fun k => (l119 k) L i s t t19 t20 t21
theorem Rli_checkTrack_1004 (L : List Int) (i : List Int) (s : List ((Int × Int) × Int × Int)) (t : Int) (t19 : List ((Int × Int) × Int × Int)) (t20 : Int) (t21 : Int) : Lim (fun k => (l119 k) L i s t t19 t20 t21) (i_checkTrack_1004 L i s t t19 t20 t21) := Lim.of_mono fun k => Mli_checkTrack k L i s t t19 t20 t21
theorem Ei_checkTrack_1004 (L : List Int) (i : List Int) (s : List ((Int × Int) × Int × Int)) (t : Int) (t19 : List ((Int × Int) × Int × Int)) (t20 : Int) (t21 : Int) : i_checkTrack_1004 L i s t t19 t20 t21 =
  bif decide (t21 < t20) then
    bif boundA t21 (List.length t19) then
      (i_isFit (List.getD t19 (Int.toNat t21) ((0, 0), 0, 0)).fst.fst (List.getD t19 (Int.toNat t21) ((0, 0), 0, 0)).fst.snd (List.getD t19 (Int.toNat t21) ((0, 0), 0, 0)).snd.fst (List.getD t19 (Int.toNat t21) ((0, 0), 0, 0)).snd.snd).bind fun r0 =>
      bif !r0 then
        some false
      else
        (i_stepHolds L i (List.getD t19 (Int.toNat t21) ((0, 0), 0, 0)).fst.fst (List.getD t19 (Int.toNat t21) ((0, 0), 0, 0)).fst.snd (List.getD t19 (Int.toNat t21) ((0, 0), 0, 0)).snd.fst (List.getD t19 (Int.toNat t21) ((0, 0), 0, 0)).snd.snd t21 t).bind fun r1 =>
        bif !r1 then
          some false
        else
          bif decide (t21 = 0) then
            i_checkTrack_1004 L i s t t19 t20 (IntKind.wrap IntKind.i64 (t21 + 1))
          else
            bif boundA (IntKind.wrap IntKind.i64 (t21 - 1)) (List.length s) then
              (i_commonPart (List.getD s (Int.toNat (IntKind.wrap IntKind.i64 (t21 - 1))) ((0, 0), 0, 0)).fst.fst (List.getD s (Int.toNat (IntKind.wrap IntKind.i64 (t21 - 1))) ((0, 0), 0, 0)).fst.snd (List.getD s (Int.toNat (IntKind.wrap IntKind.i64 (t21 - 1))) ((0, 0), 0, 0)).snd.fst (List.getD s (Int.toNat (IntKind.wrap IntKind.i64 (t21 - 1))) ((0, 0), 0, 0)).snd.snd (List.getD t19 (Int.toNat t21) ((0, 0), 0, 0)).fst.fst (List.getD t19 (Int.toNat t21) ((0, 0), 0, 0)).fst.snd (List.getD t19 (Int.toNat t21) ((0, 0), 0, 0)).snd.fst (List.getD t19 (Int.toNat t21) ((0, 0), 0, 0)).snd.snd).bind fun r2 =>
              (i_familyAt L i t21 t).bind fun r3 =>
              bif !r2.snd then
                some false
              else
                (i_signAt r3 r2.fst.fst.fst r2.fst.fst.snd).bind fun r4 =>
                (i_signAt r3 r2.fst.snd.fst r2.fst.snd.snd).bind fun r5 =>
                bif decide (0 ≤ IntKind.wrap IntKind.i64 (r4 * r5)) then
                  some false
                else
                  i_checkTrack_1004 L i s t t19 t20 (IntKind.wrap IntKind.i64 (t21 + 1))
            else
              none
    else
      none
  else
    some true := by
  refine Lim.uniq (Lim.shift (Rli_checkTrack_1004 L i s t t19 t20 t21)) (?_ : Lim (fun k => F119_1004 k ((l119 k)) L i s t t19 t20 t21) _)
  unfold F119_1004
  repeat' first | with_reducible exact Lim.ret _ | with_reducible exact Ri_signAt _ _ _ | with_reducible exact Ri_commonPart _ _ _ _ _ _ _ _ | with_reducible exact Ri_isFit _ _ _ _ | with_reducible exact Ri_familyAt _ _ _ _ | with_reducible exact Ri_stepHolds _ _ _ _ _ _ _ _ | with_reducible exact Rli_checkTrack_1004 _ _ _ _ _ _ _ | with_reducible refine Lim.cond ?_ ?_ | with_reducible refine Lim.bind ?_ fun _ => ?_
noncomputable def i_checkTrack (L : List (Int)) (i : List (Int)) (s : List ((Int × Int) × Int × Int)) (t : Int) : Option (Bool) :=
  bif !decide (t < 0) then
    bif !decide ((↑(List.length s) : Int) = IntKind.wrap IntKind.i64 (1 * 2 ^ min (Int.toNat t) (IntKind.bits IntKind.i64))) then
      some false
    else
      i_checkTrack_1004 L i s t s ((↑(List.length s) : Int)) (0)
  else
    none
theorem Mi_checkTrack (k : Nat) (L : List (Int)) (i : List (Int)) (s : List ((Int × Int) × Int × Int)) (t : Int) : Le (f119 k L i s t) (f119 (k + 1) L i s t) := by
  have h := Mli_checkTrack k
  unfold f119 F119
  repeat' first | with_reducible exact Le.rfl _ | with_reducible exact h _ _ _ _ _ _ _ | with_reducible refine Le.cond ?_ ?_ | with_reducible refine Le.bind ?_ fun _ => ?_
theorem Ri_checkTrack (L : List (Int)) (i : List (Int)) (s : List ((Int × Int) × Int × Int)) (t : Int) : Lim (fun k => f119 k L i s t) (i_checkTrack L i s t) := by
  unfold f119 F119 i_checkTrack
  repeat' first | with_reducible exact Lim.ret _ | with_reducible exact Rli_checkTrack_1004 _ _ _ _ _ _ _ | with_reducible refine Lim.cond ?_ ?_ | with_reducible refine Lim.bind ?_ fun _ => ?_

-- impl.CheckTrack
noncomputable def i_CheckTrack (p : List (Int)) (q : List (Int)) (track : List ((Int × Int) × Int × Int)) (fine : Int) : Option (Bool × Bool) :=
  (i_isFamily p q fine).bind fun r0 =>
  bif !r0 then
    some ((false, false))
  else
    bif decide (16 < (↑(List.length track) : Int)) then
      some ((false, false))
    else
      (i_checkTrack p q track fine).bind fun r1 =>
      some ((r1, true))
theorem Mi_CheckTrack (k : Nat) (p : List (Int)) (q : List (Int)) (track : List ((Int × Int) × Int × Int)) (fine : Int) : Le (f65 k p q track fine) (f65 (k + 1) p q track fine) := by
  unfold f65
  repeat' first | with_reducible exact Le.rfl _ | with_reducible exact Mi_checkTrack _ _ _ _ _ | with_reducible exact Mi_isFamily _ _ _ _ | with_reducible refine Le.cond ?_ ?_ | with_reducible refine Le.bind ?_ fun _ => ?_
theorem Ri_CheckTrack (p : List (Int)) (q : List (Int)) (track : List ((Int × Int) × Int × Int)) (fine : Int) : Lim (fun k => f65 k p q track fine) (i_CheckTrack p q track fine) := by
  unfold f65 i_CheckTrack
  repeat' first | with_reducible exact Lim.ret _ | with_reducible exact Ri_checkTrack _ _ _ _ | with_reducible exact Ri_isFamily _ _ _ | with_reducible refine Lim.cond ?_ ?_ | with_reducible refine Lim.bind ?_ fun _ => ?_

-- laws.eqDyadic
noncomputable def w_eqDyadic (a_N : Int) (a_K : Int) (b_N : Int) (b_K : Int) : Option (Bool) :=
  bif !decide (a_N = b_N) then
    some false
  else
    bif !decide (a_K = b_K) then
      some false
    else
      some true
theorem Mw_eqDyadic (k : Nat) (a_N : Int) (a_K : Int) (b_N : Int) (b_K : Int) : Le (f78 k a_N a_K b_N b_K) (f78 (k + 1) a_N a_K b_N b_K) := by
  unfold f78
  repeat' first | with_reducible exact Le.rfl _ | with_reducible refine Le.cond ?_ ?_ | with_reducible refine Le.bind ?_ fun _ => ?_
theorem Rw_eqDyadic (a_N : Int) (a_K : Int) (b_N : Int) (b_K : Int) : Lim (fun k => f78 k a_N a_K b_N b_K) (w_eqDyadic a_N a_K b_N b_K) := by
  unfold f78 w_eqDyadic
  repeat' first | with_reducible exact Lim.ret _ | with_reducible refine Lim.cond ?_ ?_ | with_reducible refine Lim.bind ?_ fun _ => ?_

-- laws.eqInterval
noncomputable def w_eqInterval (a_Low_N : Int) (a_Low_K : Int) (a_High_N : Int) (a_High_K : Int) (b_Low_N : Int) (b_Low_K : Int) (b_High_N : Int) (b_High_K : Int) : Option (Bool) :=
  (w_eqDyadic a_Low_N a_Low_K b_Low_N b_Low_K).bind fun r0 =>
  bif !r0 then
    some false
  else
    (w_eqDyadic a_High_N a_High_K b_High_N b_High_K).bind fun r1 =>
    bif !r1 then
      some false
    else
      some true
theorem Mw_eqInterval (k : Nat) (a_Low_N : Int) (a_Low_K : Int) (a_High_N : Int) (a_High_K : Int) (b_Low_N : Int) (b_Low_K : Int) (b_High_N : Int) (b_High_K : Int) : Le (f18 k a_Low_N a_Low_K a_High_N a_High_K b_Low_N b_Low_K b_High_N b_High_K) (f18 (k + 1) a_Low_N a_Low_K a_High_N a_High_K b_Low_N b_Low_K b_High_N b_High_K) := by
  unfold f18
  repeat' first | with_reducible exact Le.rfl _ | with_reducible exact Mw_eqDyadic _ _ _ _ _ | with_reducible refine Le.cond ?_ ?_ | with_reducible refine Le.bind ?_ fun _ => ?_
theorem Rw_eqInterval (a_Low_N : Int) (a_Low_K : Int) (a_High_N : Int) (a_High_K : Int) (b_Low_N : Int) (b_Low_K : Int) (b_High_N : Int) (b_High_K : Int) : Lim (fun k => f18 k a_Low_N a_Low_K a_High_N a_High_K b_Low_N b_Low_K b_High_N b_High_K) (w_eqInterval a_Low_N a_Low_K a_High_N a_High_K b_Low_N b_Low_K b_High_N b_High_K) := by
  unfold f18 w_eqInterval
  repeat' first | with_reducible exact Lim.ret _ | with_reducible exact Rw_eqDyadic _ _ _ _ | with_reducible refine Lim.cond ?_ ?_ | with_reducible refine Lim.bind ?_ fun _ => ?_

-- laws.eqIntervalS
theorem MFw_eqIntervalS_1004 (k : Nat) {r1004 q1004 : List ((Int × Int) × Int × Int) → List ((Int × Int) × Int × Int) → Int → Option (Bool)} (h1004 : ∀ (a : List ((Int × Int) × Int × Int)) (b : List ((Int × Int) × Int × Int)) (i : Int), Le (r1004 a b i) (q1004 a b i)) (a : List ((Int × Int) × Int × Int)) (b : List ((Int × Int) × Int × Int)) (i : Int) : Le (F120_1004 k r1004 a b i) (F120_1004 (k + 1) q1004 a b i) := by
  unfold F120_1004
  repeat' first | with_reducible exact Le.rfl _ | with_reducible exact Mw_eqInterval _ _ _ _ _ _ _ _ _ | with_reducible exact h1004 _ _ _ | with_reducible refine Le.cond ?_ ?_ | with_reducible refine Le.bind ?_ fun _ => ?_
theorem Mlw_eqIntervalS : ∀ k : Nat, ∀ (a : List ((Int × Int) × Int × Int)) (b : List ((Int × Int) × Int × Int)) (i : Int), Le ((l120 k) a b i) ((l120 (k + 1)) a b i)
  | 0 => fun a b i => Le.no _
  | k + 1 => by
    have h := Mlw_eqIntervalS k
    exact fun a b i => MFw_eqIntervalS_1004 k h a b i
noncomputable def w_eqIntervalS_1004 (a : List ((Int × Int) × Int × Int)) (b : List ((Int × Int) × Int × Int)) (i : Int) : Option (Bool) := lim fun k => (l120 k) a b i
theorem Rlw_eqIntervalS_1004 (a : List ((Int × Int) × Int × Int)) (b : List ((Int × Int) × Int × Int)) (i : Int) : Lim (fun k => (l120 k) a b i) (w_eqIntervalS_1004 a b i) := Lim.of_mono fun k => Mlw_eqIntervalS k a b i
theorem Ew_eqIntervalS_1004 (a : List ((Int × Int) × Int × Int)) (b : List ((Int × Int) × Int × Int)) (i : Int) : w_eqIntervalS_1004 a b i =
  bif decide (i < (↑(List.length a) : Int)) then
    bif boundA i (List.length a) then
      bif boundA i (List.length b) then
        (w_eqInterval (List.getD a (Int.toNat i) ((0, 0), 0, 0)).fst.fst (List.getD a (Int.toNat i) ((0, 0), 0, 0)).fst.snd (List.getD a (Int.toNat i) ((0, 0), 0, 0)).snd.fst (List.getD a (Int.toNat i) ((0, 0), 0, 0)).snd.snd (List.getD b (Int.toNat i) ((0, 0), 0, 0)).fst.fst (List.getD b (Int.toNat i) ((0, 0), 0, 0)).fst.snd (List.getD b (Int.toNat i) ((0, 0), 0, 0)).snd.fst (List.getD b (Int.toNat i) ((0, 0), 0, 0)).snd.snd).bind fun r0 =>
        bif !r0 then
          some false
        else
          w_eqIntervalS_1004 a b (IntKind.wrap IntKind.i64 (i + 1))
      else
        none
    else
      none
  else
    some true := by
  refine Lim.uniq (Lim.shift (Rlw_eqIntervalS_1004 a b i)) (?_ : Lim (fun k => F120_1004 k ((l120 k)) a b i) _)
  unfold F120_1004
  repeat' first | with_reducible exact Lim.ret _ | with_reducible exact Rw_eqInterval _ _ _ _ _ _ _ _ | with_reducible exact Rlw_eqIntervalS_1004 _ _ _ | with_reducible refine Lim.cond ?_ ?_ | with_reducible refine Lim.bind ?_ fun _ => ?_
noncomputable def w_eqIntervalS (a : List ((Int × Int) × Int × Int)) (b : List ((Int × Int) × Int × Int)) : Option (Bool) :=
  bif !decide ((↑(List.length a) : Int) = (↑(List.length b) : Int)) then
    some false
  else
    w_eqIntervalS_1004 a b (0)
theorem Mw_eqIntervalS (k : Nat) (a : List ((Int × Int) × Int × Int)) (b : List ((Int × Int) × Int × Int)) : Le (f120 k a b) (f120 (k + 1) a b) := by
  have h := Mlw_eqIntervalS k
  unfold f120 F120
  repeat' first | with_reducible exact Le.rfl _ | with_reducible exact h _ _ _ | with_reducible refine Le.cond ?_ ?_ | with_reducible refine Le.bind ?_ fun _ => ?_
theorem Rw_eqIntervalS (a : List ((Int × Int) × Int × Int)) (b : List ((Int × Int) × Int × Int)) : Lim (fun k => f120 k a b) (w_eqIntervalS a b) := by
  unfold f120 F120 w_eqIntervalS
  repeat' first | with_reducible exact Lim.ret _ | with_reducible exact Rlw_eqIntervalS_1004 _ _ _ | with_reducible refine Lim.cond ?_ ?_ | with_reducible refine Lim.bind ?_ fun _ => ?_

-- laws.intactIntervalS
noncomputable def w_intactIntervalS (x : List ((Int × Int) × Int × Int)) (x_n : Nat) (y : List ((Int × Int) × Int × Int)) (y_n : Nat) : Option (Bool) :=
  (w_roomBehind (↑y_n : Int)).bind fun r0 =>
  bif decide ((↑x_n : Int) = (↑y_n : Int)) then
    bif boundE (IntKind.wrap IntKind.i64 ((↑y_n : Int) + r0)) (List.length x) then
      bif decide (0 ≤ 0) && decide (0 ≤ IntKind.wrap IntKind.i64 ((↑y_n : Int) + r0)) then
        bif boundE (IntKind.wrap IntKind.i64 ((↑y_n : Int) + r0)) (List.length y) then
          bif decide (0 ≤ 0) && decide (0 ≤ IntKind.wrap IntKind.i64 ((↑y_n : Int) + r0)) then
            (w_eqIntervalS (List.drop (Int.toNat 0) (List.take (Int.toNat (IntKind.wrap IntKind.i64 ((↑y_n : Int) + r0))) x)) (List.drop (Int.toNat 0) (List.take (Int.toNat (IntKind.wrap IntKind.i64 ((↑y_n : Int) + r0))) y))).bind fun r1 =>
            some r1
          else
            none
        else
          none
      else
        none
    else
      none
  else
    some false
theorem Mw_intactIntervalS (k : Nat) (x : List ((Int × Int) × Int × Int)) (x_n : Nat) (y : List ((Int × Int) × Int × Int)) (y_n : Nat) : Le (f66 k x x_n y y_n) (f66 (k + 1) x x_n y y_n) := by
  unfold f66
  repeat' first | with_reducible exact Le.rfl _ | with_reducible exact Mw_eqIntervalS _ _ _ | with_reducible exact Mw_roomBehind _ _ | with_reducible refine Le.cond ?_ ?_ | with_reducible refine Le.bind ?_ fun _ => ?_
theorem Rw_intactIntervalS (x : List ((Int × Int) × Int × Int)) (x_n : Nat) (y : List ((Int × Int) × Int × Int)) (y_n : Nat) : Lim (fun k => f66 k x x_n y y_n) (w_intactIntervalS x x_n y y_n) := by
  unfold f66 w_intactIntervalS
  repeat' first | with_reducible exact Lim.ret _ | with_reducible exact Rw_eqIntervalS _ _ | with_reducible exact Rw_roomBehind _ | with_reducible refine Lim.cond ?_ ?_ | with_reducible refine Lim.bind ?_ fun _ => ?_

-- laws.FnExactCheckTrack
noncomputable def w_FnExactCheckTrack (L : List (Int)) (i : List (Int)) (s : List ((Int × Int) × Int × Int)) (t : Int) : Option (Bool) :=
  (w_szIntervalS s (IntKind.wrap IntKind.i64 (IntKind.wrap IntKind.i64 (1000000 - (↑(List.length L) : Int)) - (↑(List.length i) : Int)))).bind fun r0 =>
  bif decide (r0 < 0) then
    some true
  else
    (w_toIntS L false).bind fun r1 =>
    (w_toIntS i false).bind fun r2 =>
    (w_toIntervalS s false).bind fun r3 =>
    (s_CheckTrack (List.take r1.snd r1.fst) (List.take r2.snd r2.fst) (List.take r3.snd r3.fst) t).bind fun r4 =>
    (w_toIntS L false).bind fun r5 =>
    (w_toIntS i false).bind fun r6 =>
    (w_toIntervalS s false).bind fun r7 =>
    (i_CheckTrack (List.take r5.snd r5.fst) (List.take r6.snd r6.fst) (List.take r7.snd r7.fst) t).bind fun r8 =>
    bif !r8.fst == r4.fst then
      some false
    else
      bif !r8.snd == r4.snd then
        some false
      else
        (w_toIntS L false).bind fun r9 =>
        (w_intactIntS r5.fst r5.snd r9.fst r9.snd).bind fun r10 =>
        bif !r10 then
          some false
        else
          (w_toIntS i false).bind fun r11 =>
          (w_intactIntS r6.fst r6.snd r11.fst r11.snd).bind fun r12 =>
          bif !r12 then
            some false
          else
            (w_toIntervalS s false).bind fun r13 =>
            (w_intactIntervalS r7.fst r7.snd r13.fst r13.snd).bind fun r14 =>
            bif !r14 then
              some false
            else
              (w_toIntS L true).bind fun r15 =>
              (w_toIntS i true).bind fun r16 =>
              (w_toIntervalS s true).bind fun r17 =>
              (i_CheckTrack (List.take r15.snd r15.fst) (List.take r16.snd r16.fst) (List.take r17.snd r17.fst) t).bind fun r18 =>
              bif !r18.fst == r4.fst then
                some false
              else
                bif !r18.snd == r4.snd then
                  some false
                else
                  some true
theorem Mw_FnExactCheckTrack (k : Nat) (L : List (Int)) (i : List (Int)) (s : List ((Int × Int) × Int × Int)) (t : Int) : Le (f13 k L i s t) (f13 (k + 1) L i s t) := by
  unfold f13
  repeat' first | with_reducible exact Le.rfl _ | with_reducible exact Mw_toIntS _ _ _ | with_reducible exact Mw_intactIntS _ _ _ _ _ | with_reducible exact Mw_szIntervalS _ _ _ | with_reducible exact Ms_CheckTrack _ _ _ _ _ | with_reducible exact Mw_toIntervalS _ _ _ | with_reducible exact Mi_CheckTrack _ _ _ _ _ | with_reducible exact Mw_intactIntervalS _ _ _ _ _ | with_reducible refine Le.cond ?_ ?_ | with_reducible refine Le.bind ?_ fun _ => ?_
theorem Rw_FnExactCheckTrack (L : List (Int)) (i : List (Int)) (s : List ((Int × Int) × Int × Int)) (t : Int) : Lim (fun k => f13 k L i s t) (w_FnExactCheckTrack L i s t) := by
  unfold f13 w_FnExactCheckTrack
  repeat' first | with_reducible exact Lim.ret _ | with_reducible exact Rw_toIntS _ _ | with_reducible exact Rw_intactIntS _ _ _ _ | with_reducible exact Rw_szIntervalS _ _ | with_reducible exact Rs_CheckTrack _ _ _ _ | with_reducible exact Rw_toIntervalS _ _ | with_reducible exact Ri_CheckTrack _ _ _ _ | with_reducible exact Rw_intactIntervalS _ _ _ _ | with_reducible refine Lim.cond ?_ ?_ | with_reducible refine Lim.bind ?_ fun _ => ?_

end Go.Proofs.YtbaeikcfchiiaaaE
