/- Functions, by the engine; printed. -/
import Derived.Test.YtkahcjnkmbbplaaCN6
set_option maxRecDepth 100000
set_option maxHeartbeats 4000000
set_option linter.unusedVariables false
namespace Go.Proofs.YtkahcjnkmbbplaaE
-- bits.Add64
noncomputable def f117 (k : Nat) (x : Int) (y : Int) (carry : Int) : Option (Int × Int) :=
  add64 x y carry
noncomputable def s117 : Spec := two64 f117
noncomputable def env73 : List (FuncId × Spec) := (117, s117) :: env72
theorem m117 : Now Go.Proofs.Try.prog 117 s117 := now_two64 (e := addE) Go.Proofs.Try.func117 (by kernel_rfl) (by kernel_rfl) (by kernel_rfl) (by kernel_rfl) (fun _ _ _ _ _ _ h => addE_run h)
theorem env73_ok : EnvOk Go.Proofs.Try.prog (envOf env73) := envOf_any rfl (.inr m117) env72_ok

-- bits.Sub64
noncomputable def f118 (k : Nat) (x : Int) (y : Int) (carry : Int) : Option (Int × Int) :=
  sub64 x y carry
noncomputable def s118 : Spec := two64 f118
noncomputable def env74 : List (FuncId × Spec) := (118, s118) :: env73
theorem m118 : Now Go.Proofs.Try.prog 118 s118 := now_two64 (e := subE) Go.Proofs.Try.func118 (by kernel_rfl) (by kernel_rfl) (by kernel_rfl) (by kernel_rfl) (fun _ _ _ _ _ _ h => subE_run h)
theorem env74_ok : EnvOk Go.Proofs.Try.prog (envOf env74) := envOf_any rfl (.inr m118) env73_ok

-- impl.wide).add
def h99 : Hints := [(7, .lab [(2, .box 112 [.v, .v, .v]), (3, .box 112 [.v, .v, .v]), (4, .box 112 [.v, .v, .v])])]
noncomputable def F99_7 (k : Nat) (rec7 : Bool → Int → Int → Bool → Int → Int → Bool → Int → Int → Option (Bool × Int × Int)) (ss_0 : Bool) (ss_1 : Int) (ss_2 : Int) (ts_0 : Bool) (ts_1 : Int) (ts_2 : Int) (t4s_0 : Bool) (t4s_1 : Int) (t4s_2 : Int) : Option (Bool × Int × Int) :=
  (f118 k ss_2 ts_2 0).bind fun r0 =>
  (f118 k ss_1 ts_1 r0.snd).bind fun r1 =>
  some ((ss_0, r1.fst, r0.fst))
noncomputable def F99 (k : Nat) (rec7 : Bool → Int → Int → Bool → Int → Int → Bool → Int → Int → Option (Bool × Int × Int)) (L_negative : Bool) (L_high : Int) (L_low : Int) (i_negative : Bool) (i_high : Int) (i_low : Int) : Option (Bool × Int × Int) :=
  bif L_negative == i_negative then
    (f117 k L_low i_low 0).bind fun r0 =>
    (f117 k L_high i_high r0.snd).bind fun r1 =>
    some ((L_negative, r1.fst, r0.fst))
  else
    (f98 k L_negative L_high L_low i_negative i_high i_low).bind fun r2 =>
    bif decide (r2 < 0) then
      rec7 i_negative i_high i_low L_negative L_high L_low false (0) (0)
    else
      rec7 L_negative L_high L_low i_negative i_high i_low false (0) (0)
noncomputable def l99 : Nat → (Bool → Int → Int → Bool → Int → Int → Bool → Int → Int → Option (Bool × Int × Int))
  | 0 => fun _ _ _ _ _ _ _ _ _ => none
  | k + 1 => F99_7 k (l99 k)
noncomputable def f99 (k : Nat) (L_negative : Bool) (L_high : Int) (L_low : Int) (i_negative : Bool) (i_high : Int) (i_low : Int) : Option (Bool × Int × Int) := F99 k (l99 k) L_negative L_high L_low i_negative i_high i_low
noncomputable def s99 : Spec := ⟨false, [(.pair (.bool) (.pair (.int .u64) (.int .u64)), true)], true, .pair (.bool) (.pair (.int .u64) (.int .u64)), fun k xs => match xs with | [.agg [.bool L_negative, .int .u64 L_high, .int .u64 L_low], .agg [.bool i_negative, .int .u64 i_high, .int .u64 i_low]] => f99 k L_negative L_high L_low i_negative i_high i_low | _ => none, false, none⟩
noncomputable def env75 : List (FuncId × Spec) := (99, s99) :: env74
noncomputable abbrev x99 := exec ti (envOf env74) 68 h99 (finT ti true Go.Proofs.Try.f99.results.toList [(.pair (.bool) (.pair (.int .u64) (.int .u64)), true)] (.pair (.bool) (.pair (.int .u64) (.int .u64))))
noncomputable def k99_7 : List It := stackAt [.r, .r, .r, .l] (bodyOf Go.Proofs.Try.f99) []
def t99_7 (ss_0 : Bool) (ss_1 : Int) (ss_2 : Int) (ts_0 : Bool) (ts_1 : Int) (ts_2 : Int) (t4s_0 : Bool) (t4s_1 : Int) (t4s_2 : Int) : St := [(4, Cell.val (AVal.ptr 33 0)), (33, Cell.mem true 112 [AVal.bool ss_0, AVal.int IntKind.u64 ss_1, AVal.int IntKind.u64 ss_2]), (6, Cell.val (AVal.ptr 35 0)), (35, Cell.mem true 112 [AVal.bool ts_0, AVal.int IntKind.u64 ts_1, AVal.int IntKind.u64 ts_2]), (8, Cell.val (AVal.ptr 37 0)), (37, Cell.mem true 112 [AVal.bool t4s_0, AVal.int IntKind.u64 t4s_1, AVal.int IntKind.u64 t4s_2])]
theorem e99_7 (k : Nat) (ss_0 : Bool) (ss_1 : Int) (ss_2 : Int) (ts_0 : Bool) (ts_1 : Int) (ts_2 : Int) (t4s_0 : Bool) (t4s_1 : Int) (t4s_2 : Int) : x99 (k + 1) k99_7 (t99_7 ss_0 ss_1 ss_2 ts_0 ts_1 ts_2 t4s_0 t4s_1 t4s_2) = F99_7 k (fun (ss_0 : Bool) (ss_1 : Int) (ss_2 : Int) (ts_0 : Bool) (ts_1 : Int) (ts_2 : Int) (t4s_0 : Bool) (t4s_1 : Int) (t4s_2 : Int) => x99 k k99_7 (t99_7 ss_0 ss_1 ss_2 ts_0 ts_1 ts_2 t4s_0 t4s_1 t4s_2)) ss_0 ss_1 ss_2 ts_0 ts_1 ts_2 t4s_0 t4s_1 t4s_2 := by kernel_rfl
theorem q99 : ∀ k : Nat, (fun (ss_0 : Bool) (ss_1 : Int) (ss_2 : Int) (ts_0 : Bool) (ts_1 : Int) (ts_2 : Int) (t4s_0 : Bool) (t4s_1 : Int) (t4s_2 : Int) => x99 k k99_7 (t99_7 ss_0 ss_1 ss_2 ts_0 ts_1 ts_2 t4s_0 t4s_1 t4s_2)) = l99 k
  | 0 => rfl
  | k + 1 => by
    have h := q99 k
    show _ = F99_7 k (l99 k)
    rw [← h]
    exact (funext fun ss_0 => funext fun ss_1 => funext fun ss_2 => funext fun ts_0 => funext fun ts_1 => funext fun ts_2 => funext fun t4s_0 => funext fun t4s_1 => funext fun t4s_2 => e99_7 k ss_0 ss_1 ss_2 ts_0 ts_1 ts_2 t4s_0 t4s_1 t4s_2)
theorem w99 (k : Nat) (L_negative : Bool) (L_high : Int) (L_low : Int) (i_negative : Bool) (i_high : Int) (i_low : Int) : runFn ti (envOf env74) 68 h99 (finT ti true Go.Proofs.Try.f99.results.toList [(.pair (.bool) (.pair (.int .u64) (.int .u64)), true)] (.pair (.bool) (.pair (.int .u64) (.int .u64)))) k (bodyOf Go.Proofs.Try.f99) (initS 0 [.agg [.bool L_negative, .int .u64 L_high, .int .u64 L_low], .agg [.bool i_negative, .int .u64 i_high, .int .u64 i_low]]) = F99 k (fun (ss_0 : Bool) (ss_1 : Int) (ss_2 : Int) (ts_0 : Bool) (ts_1 : Int) (ts_2 : Int) (t4s_0 : Bool) (t4s_1 : Int) (t4s_2 : Int) => x99 k k99_7 (t99_7 ss_0 ss_1 ss_2 ts_0 ts_1 ts_2 t4s_0 t4s_1 t4s_2)) L_negative L_high L_low i_negative i_high i_low := by kernel_rfl
theorem v99 (k : Nat) (L_negative : Bool) (L_high : Int) (L_low : Int) (i_negative : Bool) (i_high : Int) (i_low : Int) : runFn ti (envOf env74) 68 h99 (finT ti true Go.Proofs.Try.f99.results.toList [(.pair (.bool) (.pair (.int .u64) (.int .u64)), true)] (.pair (.bool) (.pair (.int .u64) (.int .u64)))) k (bodyOf Go.Proofs.Try.f99) (initS 0 [.agg [.bool L_negative, .int .u64 L_high, .int .u64 L_low], .agg [.bool i_negative, .int .u64 i_high, .int .u64 i_low]]) = f99 k L_negative L_high L_low i_negative i_high i_low := by
  rw [w99]
  have h := q99 k
  unfold f99
  rw [← h]
theorem m99 : Meets Go.Proofs.Try.prog 99 s99 := meets_of_run tiOk env74_ok mo Go.Proofs.Try.func99 (body := bodyOf Go.Proofs.Try.f99) (by kernel_rfl) (N := 68) (by kernel_rfl) (hs := h99) (by
  intro k xs r h
  unfold s99 at h
  dsimp only at h
  split at h
  · exact ⟨Nat.le_of_ble_eq_true rfl, (v99 k _ _ _ _ _ _).trans h⟩
  · cases h)
theorem env75_ok : EnvOk Go.Proofs.Try.prog (envOf env75) := envOf_cons m99 Go.Proofs.Try.func99 (by kernel_rfl) (by kernel_rfl) env74_ok

-- impl.sumOf
noncomputable def f112 (k : Nat) (a_N : Int) (a_K : Int) (b_N : Int) (b_K : Int) : Option ((Int × Int) × Bool) :=
  (f87 k a_N).bind fun r0 =>
  (f88 k r0.fst r0.snd.fst r0.snd.snd (IntKind.wrap IntKind.i64 ((bif decide (a_K < b_K) then b_K else a_K) - a_K))).bind fun r1 =>
  (f87 k b_N).bind fun r2 =>
  (f88 k r2.fst r2.snd.fst r2.snd.snd (IntKind.wrap IntKind.i64 ((bif decide (a_K < b_K) then b_K else a_K) - b_K))).bind fun r3 =>
  (f99 k r1.fst r1.snd.fst r1.snd.snd r3.fst r3.snd.fst r3.snd.snd).bind fun r4 =>
  (f90 k r4.fst r4.snd.fst r4.snd.snd (bif decide (a_K < b_K) then b_K else a_K)).bind fun r5 =>
  some (((r5.fst.fst, r5.fst.snd), r5.snd))
noncomputable def s112 : Spec := ⟨false, [(.pair (.int .i64) (.int .i64), true), (.bool, false)], true, .pair (.pair (.int .i64) (.int .i64)) (.bool), fun k xs => match xs with | [.agg [.int .i64 a_N, .int .i64 a_K], .agg [.int .i64 b_N, .int .i64 b_K]] => f112 k a_N a_K b_N b_K | _ => none, false, none⟩
noncomputable def env76 : List (FuncId × Spec) := (112, s112) :: env75
theorem v112 (k : Nat) (a_N : Int) (a_K : Int) (b_N : Int) (b_K : Int) : runFn ti (envOf env75) 33 [] (finT ti true Go.Proofs.Try.f112.results.toList [(.pair (.int .i64) (.int .i64), true), (.bool, false)] (.pair (.pair (.int .i64) (.int .i64)) (.bool))) k (bodyOf Go.Proofs.Try.f112) (initS 0 [.agg [.int .i64 a_N, .int .i64 a_K], .agg [.int .i64 b_N, .int .i64 b_K]]) = f112 k a_N a_K b_N b_K := by kernel_rfl
theorem m112 : Meets Go.Proofs.Try.prog 112 s112 := meets_of_run tiOk env75_ok mo Go.Proofs.Try.func112 (body := bodyOf Go.Proofs.Try.f112) (by kernel_rfl) (N := 33) (by kernel_rfl) (hs := []) (by
  intro k xs r h
  unfold s112 at h
  dsimp only at h
  split at h
  · exact ⟨Nat.le_of_ble_eq_true rfl, (v112 k _ _ _ _).trans h⟩
  · cases h)
theorem env76_ok : EnvOk Go.Proofs.Try.prog (envOf env76) := envOf_cons m112 Go.Proofs.Try.func112 (by kernel_rfl) (by kernel_rfl) env75_ok

def o84 (q : T (.bool)) : St := [(3, .mem true 105 [.bool (q)])]
def p84 (x : St × T (.pair (.int .i64) (.int .i64))) : Option (T (.bool) × T (.pair (.int .i64) (.int .i64))) := match x with | ([(3, .mem true 105 [.bool r_ok])], r) => some (r_ok, r) | _ => none
-- impl.reckoner).sum
noncomputable def f84 (k : Nat) (r_ok : Bool) (a_N : Int) (a_K : Int) (b_N : Int) (b_K : Int) : Option ((Bool) × Int × Int) :=
  (f112 k a_N a_K b_N b_K).bind fun r0 =>
  (f85 k r_ok r0.fst.fst r0.fst.snd r0.snd).bind fun r1 =>
  some ((r1.fst, r1.snd.fst, r1.snd.snd))
noncomputable def g84 (k : Nat) (os : St) (xs : List AVal) : Option (T (.bool) × T (.pair (.int .i64) (.int .i64))) := match os, xs with | [(3, .mem true 105 [.bool r_ok])], [.ptr 3 0, .agg [.int .i64 a_N, .int .i64 a_K], .agg [.int .i64 b_N, .int .i64 b_K]] => f84 k r_ok a_N a_K b_N b_K | _, _ => none
noncomputable def s84 : Spec := ⟨false, [(.pair (.int .i64) (.int .i64), true)], true, .pair (.int .i64) (.int .i64), fun _ _ => none, false, some ⟨.bool, g84, o84⟩⟩
noncomputable def env77 : List (FuncId × Spec) := (84, s84) :: env76
theorem v84 (k : Nat) (r_ok : Bool) (a_N : Int) (a_K : Int) (b_N : Int) (b_K : Int) : runFn ti (envOf env76) 14 [] (finJ ti Go.Proofs.Try.f84.results.toList [(.pair (.int .i64) (.int .i64), true)] (.pair (.int .i64) (.int .i64)) [3] p84) k (bodyOf Go.Proofs.Try.f84) ([(3, .mem true 105 [.bool r_ok])] ++ initS 0 [.ptr 3 0, .agg [.int .i64 a_N, .int .i64 a_K], .agg [.int .i64 b_N, .int .i64 b_K]]) = f84 k r_ok a_N a_K b_N b_K := by kernel_rfl
theorem hp84 : ∀ x q, p84 x = some q → (o84 q.1, q.2) = x := by
  intro x q h
  unfold p84 at h
  split at h
  · cases h
    rfl
  · cases h
theorem m84 : MeetsIO Go.Proofs.Try.prog 84 [(.pair (.int .i64) (.int .i64), true)] (.pair (.int .i64) (.int .i64)) (IO.G ⟨.bool, g84, o84⟩) := meets_io_of_run tiOk env76_ok mo Go.Proofs.Try.func84 (body := bodyOf Go.Proofs.Try.f84) (by kernel_rfl) (N := 14) (by kernel_rfl) (pick := p84) (by kernel_rfl) hp84 (by
  intro k os xs r h
  have h : g84 k os xs = some r := h
  unfold g84 at h
  split at h
  · exact ⟨Nat.le_of_ble_eq_true rfl, by kernel_rfl, [], (v84 k _ _ _ _ _).trans h⟩
  · cases h)
theorem env77_ok : EnvOk Go.Proofs.Try.prog (envOf env77) := envOf_io rfl m84 Go.Proofs.Try.func84 (by kernel_rfl) (by kernel_rfl) env76_ok

-- impl.kindVolumes
def h51 : Hints := [(1007, .lab [(1, .one (.frz 63 (Ty.pair (Ty.int IntKind.i64) (Ty.int IntKind.i64)))), (6, .one (.own 32 (Ty.pair (Ty.int IntKind.i64) (Ty.pair (Ty.slice 3 (Ty.int IntKind.i64)) (Ty.slice 3 (Ty.int IntKind.i64)))))), (8, .box 105 [.v]), (9, .one (.own 68 (Ty.pair (Ty.int IntKind.i64) (Ty.int IntKind.i64)))), (25, .one (.own 3 (Ty.int IntKind.i64))), (26, .one (.v)), (27, .one (.v))])]
noncomputable def F51_1007 (k : Nat) (rec1007 : List (Int × Int) → List (Int × List Int × List Int) → Bool → List (Int × Int) → List Int → Int → Int → Option ((List (Int × Int)) × Bool)) (l : List (Int × Int)) (boxess : List (Int × List Int × List Int)) (rs_0 : Bool) (outs : List (Int × Int)) (t25s : List Int) (t26 : Int) (t27 : Int) : Option ((List (Int × Int)) × Bool) :=
  bif decide (t27 < t26) then
    bif boundA t27 (List.length t25s) then
      bif Nat.blt (Int.toNat t27) (List.length t25s) then
        bif boundA (List.getD t25s (Int.toNat t27) 0) (List.length l) then
          bif boundA (IntKind.wrap IntKind.i64 ((List.getD l (Int.toNat (List.getD t25s (Int.toNat t27) 0)) (0, 0)).fst - 1)) (List.length outs) then
            bif Nat.blt (Int.toNat (IntKind.wrap IntKind.i64 ((List.getD l (Int.toNat (List.getD t25s (Int.toNat t27) 0)) (0, 0)).fst - 1))) (List.length outs) then
              bif boundA t27 (List.length boxess) then
                bif Nat.blt (Int.toNat t27) (List.length boxess) then
                  (f56 k (List.getD boxess (Int.toNat t27) (0, [], []))).bind fun r0 =>
                  (f85 k rs_0 r0.fst.fst r0.fst.snd r0.snd).bind fun r1 =>
                  (f84 k r1.fst (List.getD outs (Int.toNat (IntKind.wrap IntKind.i64 ((List.getD l (Int.toNat (List.getD t25s (Int.toNat t27) 0)) (0, 0)).fst - 1))) (0, 0)).fst (List.getD outs (Int.toNat (IntKind.wrap IntKind.i64 ((List.getD l (Int.toNat (List.getD t25s (Int.toNat t27) 0)) (0, 0)).fst - 1))) (0, 0)).snd r1.snd.fst r1.snd.snd).bind fun r2 =>
                  bif boundA (IntKind.wrap IntKind.i64 ((List.getD l (Int.toNat (List.getD t25s (Int.toNat t27) 0)) (0, 0)).fst - 1)) (List.length outs) then
                    bif Nat.blt (Int.toNat (IntKind.wrap IntKind.i64 ((List.getD l (Int.toNat (List.getD t25s (Int.toNat t27) 0)) (0, 0)).fst - 1))) (List.length outs) then
                      rec1007 l boxess (r2.fst) (List.set outs (Int.toNat (IntKind.wrap IntKind.i64 ((List.getD l (Int.toNat (List.getD t25s (Int.toNat t27) 0)) (0, 0)).fst - 1))) (r2.snd.fst, r2.snd.snd)) t25s t26 (IntKind.wrap IntKind.i64 (t27 + 1))
                    else
                      none
                  else
                    none
                else
                  none
              else
                none
            else
              none
          else
            none
        else
          none
      else
        none
    else
      none
  else
    bif !rs_0 then
      some (([], false))
    else
      some ((outs, true))
noncomputable def F51 (k : Nat) (rec1007 : List (Int × Int) → List (Int × List Int × List Int) → Bool → List (Int × Int) → List Int → Int → Int → Option ((List (Int × Int)) × Bool)) (b : Int × (List (Int)) × List (Int)) (l : List (Int × Int)) : Option ((List (Int × Int)) × Bool) :=
  (f45 k b l).bind fun r0 =>
  bif !r0.snd then
    some (([], false))
  else
    (f83 k l).bind fun r1 =>
    rec1007 l (r0.fst) true (List.replicate (Int.toNat 3) (dflt (Ty.pair (Ty.int IntKind.i64) (Ty.int IntKind.i64)))) r1 ((↑(List.length r1) : Int)) (0)
noncomputable def l51 : Nat → (List (Int × Int) → List (Int × List Int × List Int) → Bool → List (Int × Int) → List Int → Int → Int → Option ((List (Int × Int)) × Bool))
  | 0 => fun _ _ _ _ _ _ _ => none
  | k + 1 => F51_1007 k (l51 k)
noncomputable def f51 (k : Nat) (b : Int × (List (Int)) × List (Int)) (l : List (Int × Int)) : Option ((List (Int × Int)) × Bool) := F51 k (l51 k) b l
noncomputable def s51 : Spec := ⟨false, [(.slice 68 (.pair (.int .i64) (.int .i64)), false), (.bool, false)], true, .pair (.slice 68 (.pair (.int .i64) (.int .i64))) (.bool), fun k xs => match xs with | [.fptr (.pair (.int .i64) (.pair (.slice 3 (.int .i64)) (.slice 3 (.int .i64)))) b, .slc 63 (.pair (.int .i64) (.int .i64)) l] => f51 k b l | _ => none, false, none⟩
noncomputable def env78 : List (FuncId × Spec) := (51, s51) :: env77
noncomputable abbrev x51 := exec ti (envOf env77) 62 h51 (finT ti true Go.Proofs.Try.f51.results.toList [(.slice 68 (.pair (.int .i64) (.int .i64)), false), (.bool, false)] (.pair (.slice 68 (.pair (.int .i64) (.int .i64))) (.bool)))
noncomputable def k51_1007 : List It := stackAt [.r, .r, .r, .r, .r, .l, .r, .b, .lb none] (bodyOf Go.Proofs.Try.f51) []
def t51_1007 (l : List (Int × Int)) (boxess : List (Int × List Int × List Int)) (rs_0 : Bool) (outs : List (Int × Int)) (t25s : List Int) (t26 : Int) (t27 : Int) : St := [(2, Cell.val (AVal.slc 63 (Ty.pair (Ty.int IntKind.i64) (Ty.int IntKind.i64)) l)), (12, Cell.val (AVal.ref 33 none)), (33, Cell.row true 32 (Ty.pair (Ty.int IntKind.i64) (Ty.pair (Ty.slice 3 (Ty.int IntKind.i64)) (Ty.slice 3 (Ty.int IntKind.i64)))) boxess), (16, Cell.val (AVal.ptr 35 0)), (35, Cell.mem true 105 [AVal.bool rs_0]), (18, Cell.val (AVal.ref 37 none)), (37, Cell.row true 68 (Ty.pair (Ty.int IntKind.i64) (Ty.int IntKind.i64)) outs), (50, Cell.val (AVal.ref 39 none)), (39, Cell.row true 3 (Ty.int IntKind.i64) t25s), (52, Cell.val (AVal.int IntKind.i64 t26)), (54, Cell.val (AVal.int IntKind.i64 t27))]
theorem e51_1007 (k : Nat) (l : List (Int × Int)) (boxess : List (Int × List Int × List Int)) (rs_0 : Bool) (outs : List (Int × Int)) (t25s : List Int) (t26 : Int) (t27 : Int) : x51 (k + 1) k51_1007 (t51_1007 l boxess rs_0 outs t25s t26 t27) = F51_1007 k (fun (l : List (Int × Int)) (boxess : List (Int × List Int × List Int)) (rs_0 : Bool) (outs : List (Int × Int)) (t25s : List Int) (t26 : Int) (t27 : Int) => x51 k k51_1007 (t51_1007 l boxess rs_0 outs t25s t26 t27)) l boxess rs_0 outs t25s t26 t27 := by kernel_rfl
theorem q51 : ∀ k : Nat, (fun (l : List (Int × Int)) (boxess : List (Int × List Int × List Int)) (rs_0 : Bool) (outs : List (Int × Int)) (t25s : List Int) (t26 : Int) (t27 : Int) => x51 k k51_1007 (t51_1007 l boxess rs_0 outs t25s t26 t27)) = l51 k
  | 0 => rfl
  | k + 1 => by
    have h := q51 k
    show _ = F51_1007 k (l51 k)
    rw [← h]
    exact (funext fun l => funext fun boxess => funext fun rs_0 => funext fun outs => funext fun t25s => funext fun t26 => funext fun t27 => e51_1007 k l boxess rs_0 outs t25s t26 t27)
theorem w51 (k : Nat) (b : Int × (List (Int)) × List (Int)) (l : List (Int × Int)) : runFn ti (envOf env77) 62 h51 (finT ti true Go.Proofs.Try.f51.results.toList [(.slice 68 (.pair (.int .i64) (.int .i64)), false), (.bool, false)] (.pair (.slice 68 (.pair (.int .i64) (.int .i64))) (.bool))) k (bodyOf Go.Proofs.Try.f51) (initS 0 [.fptr (.pair (.int .i64) (.pair (.slice 3 (.int .i64)) (.slice 3 (.int .i64)))) b, .slc 63 (.pair (.int .i64) (.int .i64)) l]) = F51 k (fun (l : List (Int × Int)) (boxess : List (Int × List Int × List Int)) (rs_0 : Bool) (outs : List (Int × Int)) (t25s : List Int) (t26 : Int) (t27 : Int) => x51 k k51_1007 (t51_1007 l boxess rs_0 outs t25s t26 t27)) b l := by kernel_rfl
theorem v51 (k : Nat) (b : Int × (List (Int)) × List (Int)) (l : List (Int × Int)) : runFn ti (envOf env77) 62 h51 (finT ti true Go.Proofs.Try.f51.results.toList [(.slice 68 (.pair (.int .i64) (.int .i64)), false), (.bool, false)] (.pair (.slice 68 (.pair (.int .i64) (.int .i64))) (.bool))) k (bodyOf Go.Proofs.Try.f51) (initS 0 [.fptr (.pair (.int .i64) (.pair (.slice 3 (.int .i64)) (.slice 3 (.int .i64)))) b, .slc 63 (.pair (.int .i64) (.int .i64)) l]) = f51 k b l := by
  rw [w51]
  have h := q51 k
  unfold f51
  rw [← h]
theorem m51 : Meets Go.Proofs.Try.prog 51 s51 := meets_of_run tiOk env77_ok mo Go.Proofs.Try.func51 (body := bodyOf Go.Proofs.Try.f51) (by kernel_rfl) (N := 62) (by kernel_rfl) (hs := h51) (by
  intro k xs r h
  unfold s51 at h
  dsimp only at h
  split at h
  · exact ⟨Nat.le_of_ble_eq_true rfl, (v51 k _ _).trans h⟩
  · cases h)
theorem env78_ok : EnvOk Go.Proofs.Try.prog (envOf env78) := envOf_cons m51 Go.Proofs.Try.func51 (by kernel_rfl) (by kernel_rfl) env77_ok

-- impl.compareWide
noncomputable def f86 (k : Nat) (a_negative : Bool) (a_high : Int) (a_low : Int) (b_negative : Bool) (b_high : Int) (b_low : Int) : Option (Int) :=
  (f113 k a_negative a_high a_low).bind fun r0 =>
  bif r0 then
    (f113 k b_negative b_high b_low).bind fun r1 =>
    bif r1 then
      some (0)
    else
      bif !a_negative == b_negative then
        bif a_negative then
          some (-1)
        else
          some (1)
      else
        bif a_negative then
          (f98 k b_negative b_high b_low a_negative a_high a_low).bind fun r2 =>
          some r2
        else
          (f98 k a_negative a_high a_low b_negative b_high b_low).bind fun r3 =>
          some r3
  else
    bif !a_negative == b_negative then
      bif a_negative then
        some (-1)
      else
        some (1)
    else
      bif a_negative then
        (f98 k b_negative b_high b_low a_negative a_high a_low).bind fun r4 =>
        some r4
      else
        (f98 k a_negative a_high a_low b_negative b_high b_low).bind fun r5 =>
        some r5
noncomputable def s86 : Spec := ⟨false, [(.int .i64, false)], true, .int .i64, fun k xs => match xs with | [.agg [.bool a_negative, .int .u64 a_high, .int .u64 a_low], .agg [.bool b_negative, .int .u64 b_high, .int .u64 b_low]] => f86 k a_negative a_high a_low b_negative b_high b_low | _ => none, false, none⟩
noncomputable def env79 : List (FuncId × Spec) := (86, s86) :: env78
theorem v86 (k : Nat) (a_negative : Bool) (a_high : Int) (a_low : Int) (b_negative : Bool) (b_high : Int) (b_low : Int) : runFn ti (envOf env78) 29 [] (finT ti true Go.Proofs.Try.f86.results.toList [(.int .i64, false)] (.int .i64)) k (bodyOf Go.Proofs.Try.f86) (initS 0 [.agg [.bool a_negative, .int .u64 a_high, .int .u64 a_low], .agg [.bool b_negative, .int .u64 b_high, .int .u64 b_low]]) = f86 k a_negative a_high a_low b_negative b_high b_low := by kernel_rfl
theorem m86 : Meets Go.Proofs.Try.prog 86 s86 := meets_of_run tiOk env78_ok mo Go.Proofs.Try.func86 (body := bodyOf Go.Proofs.Try.f86) (by kernel_rfl) (N := 29) (by kernel_rfl) (hs := []) (by
  intro k xs r h
  unfold s86 at h
  dsimp only at h
  split at h
  · exact ⟨Nat.le_of_ble_eq_true rfl, (v86 k _ _ _ _ _ _).trans h⟩
  · cases h)
theorem env79_ok : EnvOk Go.Proofs.Try.prog (envOf env79) := envOf_cons m86 Go.Proofs.Try.func86 (by kernel_rfl) (by kernel_rfl) env78_ok

-- impl.compareD
noncomputable def f52 (k : Nat) (a_N : Int) (a_K : Int) (b_N : Int) (b_K : Int) : Option (Int) :=
  (f87 k a_N).bind fun r0 =>
  (f88 k r0.fst r0.snd.fst r0.snd.snd (IntKind.wrap IntKind.i64 ((bif decide (a_K < b_K) then b_K else a_K) - a_K))).bind fun r1 =>
  (f87 k b_N).bind fun r2 =>
  (f88 k r2.fst r2.snd.fst r2.snd.snd (IntKind.wrap IntKind.i64 ((bif decide (a_K < b_K) then b_K else a_K) - b_K))).bind fun r3 =>
  (f86 k r1.fst r1.snd.fst r1.snd.snd r3.fst r3.snd.fst r3.snd.snd).bind fun r4 =>
  some r4
noncomputable def s52 : Spec := ⟨false, [(.int .i64, false)], true, .int .i64, fun k xs => match xs with | [.agg [.int .i64 a_N, .int .i64 a_K], .agg [.int .i64 b_N, .int .i64 b_K]] => f52 k a_N a_K b_N b_K | _ => none, false, none⟩
noncomputable def env80 : List (FuncId × Spec) := (52, s52) :: env79
theorem v52 (k : Nat) (a_N : Int) (a_K : Int) (b_N : Int) (b_K : Int) : runFn ti (envOf env79) 28 [] (finT ti true Go.Proofs.Try.f52.results.toList [(.int .i64, false)] (.int .i64)) k (bodyOf Go.Proofs.Try.f52) (initS 0 [.agg [.int .i64 a_N, .int .i64 a_K], .agg [.int .i64 b_N, .int .i64 b_K]]) = f52 k a_N a_K b_N b_K := by kernel_rfl
theorem m52 : Meets Go.Proofs.Try.prog 52 s52 := meets_of_run tiOk env79_ok mo Go.Proofs.Try.func52 (body := bodyOf Go.Proofs.Try.f52) (by kernel_rfl) (N := 28) (by kernel_rfl) (hs := []) (by
  intro k xs r h
  unfold s52 at h
  dsimp only at h
  split at h
  · exact ⟨Nat.le_of_ble_eq_true rfl, (v52 k _ _ _ _).trans h⟩
  · cases h)
theorem env80_ok : EnvOk Go.Proofs.Try.prog (envOf env80) := envOf_cons m52 Go.Proofs.Try.func52 (by kernel_rfl) (by kernel_rfl) env79_ok

-- impl.CompareTrees
noncomputable def f20 (k : Nat) (b_K : Int) (b_Low : List (Int)) (b_High : List (Int)) (l : List (Int × Int)) (m : List (Int × Int)) : Option (Int × Bool) :=
  (f44 k (b_K, b_Low, b_High) l).bind fun r0 =>
  bif !r0 then
    some ((0, false))
  else
    (f44 k (b_K, b_Low, b_High) m).bind fun r1 =>
    bif !r1 then
      some ((0, false))
    else
      (f51 k (b_K, b_Low, b_High) l).bind fun r2 =>
      (f51 k (b_K, b_Low, b_High) m).bind fun r3 =>
      bif !r2.snd then
        some ((0, false))
      else
        bif !r3.snd then
          some ((0, false))
        else
          bif boundA 2 (List.length r2.fst) then
            bif Nat.blt (Int.toNat 2) (List.length r2.fst) then
              bif boundA 2 (List.length r3.fst) then
                bif Nat.blt (Int.toNat 2) (List.length r3.fst) then
                  (f52 k (List.getD r2.fst (Int.toNat 2) (0, 0)).fst (List.getD r2.fst (Int.toNat 2) (0, 0)).snd (List.getD r3.fst (Int.toNat 2) (0, 0)).fst (List.getD r3.fst (Int.toNat 2) (0, 0)).snd).bind fun r4 =>
                  some ((r4, true))
                else
                  none
              else
                none
            else
              none
          else
            none
noncomputable def s20 : Spec := ⟨false, [(.int .i64, false), (.bool, false)], true, .pair (.int .i64) (.bool), fun k xs => match xs with | [.agg [.int .i64 b_K, .slc 3 (.int .i64) b_Low, .slc 3 (.int .i64) b_High], .slc 63 (.pair (.int .i64) (.int .i64)) l, .slc 63 (.pair (.int .i64) (.int .i64)) m] => f20 k b_K b_Low b_High l m | _ => none, false, none⟩
noncomputable def env81 : List (FuncId × Spec) := (20, s20) :: env80
theorem v20 (k : Nat) (b_K : Int) (b_Low : List (Int)) (b_High : List (Int)) (l : List (Int × Int)) (m : List (Int × Int)) : runFn ti (envOf env80) 43 [] (finT ti true Go.Proofs.Try.f20.results.toList [(.int .i64, false), (.bool, false)] (.pair (.int .i64) (.bool))) k (bodyOf Go.Proofs.Try.f20) (initS 0 [.agg [.int .i64 b_K, .slc 3 (.int .i64) b_Low, .slc 3 (.int .i64) b_High], .slc 63 (.pair (.int .i64) (.int .i64)) l, .slc 63 (.pair (.int .i64) (.int .i64)) m]) = f20 k b_K b_Low b_High l m := by kernel_rfl
theorem m20 : Meets Go.Proofs.Try.prog 20 s20 := meets_of_run tiOk env80_ok mo Go.Proofs.Try.func20 (body := bodyOf Go.Proofs.Try.f20) (by kernel_rfl) (N := 43) (by kernel_rfl) (hs := []) (by
  intro k xs r h
  unfold s20 at h
  dsimp only at h
  split at h
  · exact ⟨Nat.le_of_ble_eq_true rfl, (v20 k _ _ _ _ _).trans h⟩
  · cases h)
theorem env81_ok : EnvOk Go.Proofs.Try.prog (envOf env81) := envOf_cons m20 Go.Proofs.Try.func20 (by kernel_rfl) (by kernel_rfl) env80_ok

-- laws.FnExactCompareTrees
noncomputable def f4 (k : Nat) (L_K : Int) (L_Low : List (Int)) (L_High : List (Int)) (i : List (Int × Int)) (s : List (Int × Int)) : Option (Bool) :=
  (f8 k L_K L_Low L_High 1000000).bind fun r0 =>
  bif decide (r0 < 0) then
    some true
  else
    (f9 k i r0).bind fun r1 =>
    bif decide (r1 < 0) then
      some true
    else
      (f9 k s r1).bind fun r2 =>
      bif decide (r2 < 0) then
        some true
      else
        (f12 k L_K L_Low L_High false).bind fun r3 =>
        (f13 k i false).bind fun r4 =>
        (f13 k s false).bind fun r5 =>
        (f19 k r3.fst (List.take r3.snd.fst.snd r3.snd.fst.fst) (List.take r3.snd.snd.snd r3.snd.snd.fst) (List.take r4.snd r4.fst) (List.take r5.snd r5.fst)).bind fun r6 =>
        (f12 k L_K L_Low L_High false).bind fun r7 =>
        (f13 k i false).bind fun r8 =>
        (f13 k s false).bind fun r9 =>
        (f20 k r7.fst (List.take r7.snd.fst.snd r7.snd.fst.fst) (List.take r7.snd.snd.snd r7.snd.snd.fst) (List.take r8.snd r8.fst) (List.take r9.snd r9.fst)).bind fun r10 =>
        bif !decide (r10.fst = r6.fst) then
          some false
        else
          bif !r10.snd == r6.snd then
            some false
          else
            (f12 k L_K L_Low L_High false).bind fun r11 =>
            (f16 k r7.fst r7.snd.fst.fst r7.snd.fst.snd r7.snd.snd.fst r7.snd.snd.snd r11.fst r11.snd.fst.fst r11.snd.fst.snd r11.snd.snd.fst r11.snd.snd.snd).bind fun r12 =>
            bif !r12 then
              some false
            else
              (f13 k i false).bind fun r13 =>
              (f17 k r8.fst r8.snd r13.fst r13.snd).bind fun r14 =>
              bif !r14 then
                some false
              else
                (f13 k s false).bind fun r15 =>
                (f17 k r9.fst r9.snd r15.fst r15.snd).bind fun r16 =>
                bif !r16 then
                  some false
                else
                  (f12 k L_K L_Low L_High true).bind fun r17 =>
                  (f13 k i true).bind fun r18 =>
                  (f13 k s true).bind fun r19 =>
                  (f20 k r17.fst (List.take r17.snd.fst.snd r17.snd.fst.fst) (List.take r17.snd.snd.snd r17.snd.snd.fst) (List.take r18.snd r18.fst) (List.take r19.snd r19.fst)).bind fun r20 =>
                  bif !decide (r20.fst = r6.fst) then
                    some false
                  else
                    bif !r20.snd == r6.snd then
                      some false
                    else
                      some true
noncomputable def s4 : Spec := ⟨false, [(.bool, false)], true, .bool, fun k xs => match xs with | [.agg [.int .i64 L_K, .slc 3 (.int .i64) L_Low, .slc 3 (.int .i64) L_High], .slc 65 (.pair (.int .i64) (.int .i64)) i, .slc 65 (.pair (.int .i64) (.int .i64)) s] => f4 k L_K L_Low L_High i s | _ => none, false, none⟩
noncomputable def env82 : List (FuncId × Spec) := (4, s4) :: env81
theorem v4 (k : Nat) (L_K : Int) (L_Low : List (Int)) (L_High : List (Int)) (i : List (Int × Int)) (s : List (Int × Int)) : runFn tiV (envOf env81) 96 [] (finT tiV true Go.Proofs.Try.f4.results.toList [(.bool, false)] (.bool)) k (bodyOf Go.Proofs.Try.f4) (initS 0 [.agg [.int .i64 L_K, .slc 3 (.int .i64) L_Low, .slc 3 (.int .i64) L_High], .slc 65 (.pair (.int .i64) (.int .i64)) i, .slc 65 (.pair (.int .i64) (.int .i64)) s]) = f4 k L_K L_Low L_High i s := by kernel_rfl
theorem m4 : Meets Go.Proofs.Try.prog 4 s4 := meets_of_run tiVOk env81_ok mo Go.Proofs.Try.func4 (body := bodyOf Go.Proofs.Try.f4) (by kernel_rfl) (N := 96) (by kernel_rfl) (hs := []) (by
  intro k xs r h
  unfold s4 at h
  dsimp only at h
  split at h
  · exact ⟨Nat.le_of_ble_eq_true rfl, (v4 k _ _ _ _ _).trans h⟩
  · cases h)
theorem env82_ok : EnvOk Go.Proofs.Try.prog (envOf env82) := envOf_cons m4 Go.Proofs.Try.func4 (by kernel_rfl) (by kernel_rfl) env81_ok

-- spec.rpKind
noncomputable def f63 (k : Nat) (kind : Int) : Option (Bool) :=
  (f95 k kind 1 3).bind fun r0 =>
  some r0
noncomputable def s63 : Spec := ⟨false, [(.bool, false)], true, .bool, fun k xs => match xs with | [.int .i64 kind] => f63 k kind | _ => none, false, none⟩
noncomputable def env83 : List (FuncId × Spec) := (63, s63) :: env82
theorem v63 (k : Nat) (kind : Int) : runFn ti (envOf env82) 5 [] (finT ti true Go.Proofs.Try.f63.results.toList [(.bool, false)] (.bool)) k (bodyOf Go.Proofs.Try.f63) (initS 0 [.int .i64 kind]) = f63 k kind := by kernel_rfl
theorem m63 : Meets Go.Proofs.Try.prog 63 s63 := meets_of_run tiOk env82_ok mo Go.Proofs.Try.func63 (body := bodyOf Go.Proofs.Try.f63) (by kernel_rfl) (N := 5) (by kernel_rfl) (hs := []) (by
  intro k xs r h
  unfold s63 at h
  dsimp only at h
  split at h
  · exact ⟨Nat.le_of_ble_eq_true rfl, (v63 k _).trans h⟩
  · cases h)
theorem env83_ok : EnvOk Go.Proofs.Try.prog (envOf env83) := envOf_cons m63 Go.Proofs.Try.func63 (by kernel_rfl) (by kernel_rfl) env82_ok

-- spec.ShareOf
noncomputable def f32 (k : Nat) (b_K : Int) (b_Low : List (Int)) (b_High : List (Int)) (l : List (Int × Int)) (kind : Int) : Option (Int × Bool) :=
  (f35 k b_K b_Low b_High l).bind fun r0 =>
  bif !r0.snd then
    some ((0, false))
  else
    (f63 k kind).bind fun r1 =>
    bif !r1 then
      some ((0, false))
    else
      (f50 k r0.fst l kind).bind fun r2 =>
      (f64 k r2.fst r2.snd 24).bind fun r3 =>
      (f54 k b_K b_Low b_High).bind fun r4 =>
      (f64 k r4.fst r4.snd 24).bind fun r5 =>
      bif !decide (r5.fst = 0) then
        some ((IntKind.wrap IntKind.i64 (Int.tdiv (IntKind.wrap IntKind.i64 (100 * r3.fst)) r5.fst), true))
      else
        none
noncomputable def s32 : Spec := ⟨false, [(.int .i64, false), (.bool, false)], true, .pair (.int .i64) (.bool), fun k xs => match xs with | [.agg [.int .i64 b_K, .slc 3 (.int .i64) b_Low, .slc 3 (.int .i64) b_High], .slc 63 (.pair (.int .i64) (.int .i64)) l, .int .i64 kind] => f32 k b_K b_Low b_High l kind | _ => none, false, none⟩
noncomputable def env84 : List (FuncId × Spec) := (32, s32) :: env83
theorem v32 (k : Nat) (b_K : Int) (b_Low : List (Int)) (b_High : List (Int)) (l : List (Int × Int)) (kind : Int) : runFn ti (envOf env83) 45 [] (finT ti true Go.Proofs.Try.f32.results.toList [(.int .i64, false), (.bool, false)] (.pair (.int .i64) (.bool))) k (bodyOf Go.Proofs.Try.f32) (initS 0 [.agg [.int .i64 b_K, .slc 3 (.int .i64) b_Low, .slc 3 (.int .i64) b_High], .slc 63 (.pair (.int .i64) (.int .i64)) l, .int .i64 kind]) = f32 k b_K b_Low b_High l kind := by kernel_rfl
theorem m32 : Meets Go.Proofs.Try.prog 32 s32 := meets_of_run tiOk env83_ok mo Go.Proofs.Try.func32 (body := bodyOf Go.Proofs.Try.f32) (by kernel_rfl) (N := 45) (by kernel_rfl) (hs := []) (by
  intro k xs r h
  unfold s32 at h
  dsimp only at h
  split at h
  · exact ⟨Nat.le_of_ble_eq_true rfl, (v32 k _ _ _ _ _).trans h⟩
  · cases h)
theorem env84_ok : EnvOk Go.Proofs.Try.prog (envOf env84) := envOf_cons m32 Go.Proofs.Try.func32 (by kernel_rfl) (by kernel_rfl) env83_ok

end Go.Proofs.YtkahcjnkmbbplaaE
