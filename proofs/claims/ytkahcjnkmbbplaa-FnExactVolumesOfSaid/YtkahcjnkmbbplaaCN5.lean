/- Functions, by the engine; printed. -/
import Derived.Test.YtkahcjnkmbbplaaCN4
set_option maxRecDepth 100000
set_option maxHeartbeats 4000000
set_option linter.unusedVariables false
namespace Go.Proofs.YtkahcjnkmbbplaaE
-- slices.Grow[[]int,int]
noncomputable def f128 (k : Nat) (n : Int) : Option (List (Int)) :=
  bif decide (n < 0) then
    none
  else
    bif decide (0 < IntKind.wrap IntKind.i64 (n - IntKind.wrap IntKind.i64 (0 - (↑0 : Int)))) then
      bif decide (0 < IntKind.wrap IntKind.i64 (n - IntKind.wrap IntKind.i64 (0 - (↑0 : Int)))) then
        bif decide (Int.toNat (IntKind.wrap IntKind.i64 (n - IntKind.wrap IntKind.i64 (0 - (↑0 : Int)))) * 8 ≤ 140737488355328) then
          some (List.take (Int.toNat (↑0 : Int)) (List.replicate (Int.toNat (IntKind.wrap IntKind.i64 (n - IntKind.wrap IntKind.i64 (0 - (↑0 : Int))))) (dflt (Ty.int IntKind.i64))))
        else
          none
      else
        none
    else
      some ([])
noncomputable def s128 : Spec := ⟨false, [(.slice 3 (.int .i64), false)], true, .slice 3 (.int .i64), fun k xs => match xs with | [.nilslc, .int .i64 n] => f128 k n | _ => none, true, none⟩
noncomputable def env49 : List (FuncId × Spec) := (128, s128) :: env48
theorem v128 (k : Nat) (n : Int) : runFn tiC (envOf env48) 27 [] (finT tiC true Go.Proofs.Try.f128.results.toList [(.slice 3 (.int .i64), false)] (.slice 3 (.int .i64))) k (bodyOf Go.Proofs.Try.f128) (initS 0 [.nilslc, .int .i64 n]) = f128 k n := by kernel_rfl
theorem m128 : Meets Go.Proofs.Try.prog 128 s128 := meets_of_run tiCOk env48_ok mo Go.Proofs.Try.func128 (body := bodyOf Go.Proofs.Try.f128) (by kernel_rfl) (N := 27) (by kernel_rfl) (hs := []) (by
  intro k xs r h
  unfold s128 at h
  dsimp only at h
  split at h
  · exact ⟨Nat.le_of_ble_eq_true rfl, (v128 k _).trans h⟩
  · cases h)
theorem env49_ok : EnvOk Go.Proofs.Try.prog (envOf env49) := envOf_cons m128 Go.Proofs.Try.func128 (by kernel_rfl) (by kernel_rfl) env48_ok

-- slices.Concat[[]int,int]
def h122 : Hints := [(1003, .lab [(0, .one (.frz 22 (Ty.slice 3 (Ty.int IntKind.i64)))), (3, .one (.v)), (9, .one (.frz 22 (Ty.slice 3 (Ty.int IntKind.i64)))), (10, .one (.v)), (11, .one (.v))]), (1011, .lab [(6, .one (.own 3 (Ty.int IntKind.i64))), (25, .one (.frz 22 (Ty.slice 3 (Ty.int IntKind.i64)))), (26, .one (.v)), (27, .one (.v))])]
noncomputable def F122_1003 (k : Nat) (rec1003 : List (List Int) → Int → List (List Int) → Int → Int → Option (List (Int))) (rec1011 : List Int → List (List Int) → Int → Int → Option (List (Int))) (slices : List (List Int)) (size : Int) (t9 : List (List Int)) (t10 : Int) (t11 : Int) : Option (List (Int)) :=
  bif decide (t11 < t10) then
    bif boundA t11 (List.length t9) then
      bif decide (IntKind.wrap IntKind.i64 (size + (↑(List.length (List.getD t9 (Int.toNat t11) [])) : Int)) < 0) then
        none
      else
        rec1003 slices (IntKind.wrap IntKind.i64 (size + (↑(List.length (List.getD t9 (Int.toNat t11) [])) : Int))) t9 t10 (IntKind.wrap IntKind.i64 (t11 + 1))
    else
      none
  else
    (f128 k size).bind fun r0 =>
    rec1011 r0 slices ((↑(List.length slices) : Int)) (0)
noncomputable def F122_1011 (k : Nat) (rec1003 : List (List Int) → Int → List (List Int) → Int → Int → Option (List (Int))) (rec1011 : List Int → List (List Int) → Int → Int → Option (List (Int))) (newslices : List Int) (t25 : List (List Int)) (t26 : Int) (t27 : Int) : Option (List (Int)) :=
  bif decide (t27 < t26) then
    bif boundA t27 (List.length t25) then
      bif decide ((List.length newslices + List.length (List.getD t25 (Int.toNat t27) [])) * 8 ≤ 140737488355328) then
        rec1011 (newslices ++ List.getD t25 (Int.toNat t27) []) t25 t26 (IntKind.wrap IntKind.i64 (t27 + 1))
      else
        none
    else
      none
  else
    some newslices
noncomputable def F122 (k : Nat) (rec1003 : List (List Int) → Int → List (List Int) → Int → Int → Option (List (Int))) (rec1011 : List Int → List (List Int) → Int → Int → Option (List (Int))) (slices : List (List (Int))) : Option (List (Int)) :=
  rec1003 slices (0) slices ((↑(List.length slices) : Int)) (0)
noncomputable def l122 : Nat → (List (List Int) → Int → List (List Int) → Int → Int → Option (List (Int))) × (List Int → List (List Int) → Int → Int → Option (List (Int)))
  | 0 => (fun _ _ _ _ _ => none, fun _ _ _ _ => none)
  | k + 1 => (F122_1003 k ((l122 k).1) ((l122 k).2), F122_1011 k ((l122 k).1) ((l122 k).2))
noncomputable def f122 (k : Nat) (slices : List (List (Int))) : Option (List (Int)) := F122 k ((l122 k).1) ((l122 k).2) slices
noncomputable def s122 : Spec := ⟨false, [(.slice 3 (.int .i64), false)], true, .slice 3 (.int .i64), fun k xs => match xs with | [.slc 22 (.slice 3 (.int .i64)) slices] => f122 k slices | _ => none, false, none⟩
noncomputable def env50 : List (FuncId × Spec) := (122, s122) :: env49
noncomputable abbrev x122 := exec ti (envOf env49) 36 h122 (finT ti true Go.Proofs.Try.f122.results.toList [(.slice 3 (.int .i64), false)] (.slice 3 (.int .i64)))
noncomputable def k122_1003 : List It := stackAt [.r, .r, .l, .r, .b, .lb none] (bodyOf Go.Proofs.Try.f122) []
def t122_1003 (slices : List (List Int)) (size : Int) (t9 : List (List Int)) (t10 : Int) (t11 : Int) : St := [(0, Cell.val (AVal.slc 22 (Ty.slice 3 (Ty.int IntKind.i64)) slices)), (6, Cell.val (AVal.int IntKind.i64 size)), (18, Cell.val (AVal.slc 22 (Ty.slice 3 (Ty.int IntKind.i64)) t9)), (20, Cell.val (AVal.int IntKind.i64 t10)), (22, Cell.val (AVal.int IntKind.i64 t11))]
noncomputable def k122_1011 : List It := stackAt [.r, .r, .r, .r, .l, .r, .b, .lb none] (bodyOf Go.Proofs.Try.f122) []
def t122_1011 (newslices : List Int) (t25 : List (List Int)) (t26 : Int) (t27 : Int) : St := [(12, Cell.val (AVal.ref 33 none)), (33, Cell.row true 3 (Ty.int IntKind.i64) newslices), (50, Cell.val (AVal.slc 22 (Ty.slice 3 (Ty.int IntKind.i64)) t25)), (52, Cell.val (AVal.int IntKind.i64 t26)), (54, Cell.val (AVal.int IntKind.i64 t27))]
theorem e122_1003 (k : Nat) (slices : List (List Int)) (size : Int) (t9 : List (List Int)) (t10 : Int) (t11 : Int) : x122 (k + 1) k122_1003 (t122_1003 slices size t9 t10 t11) = F122_1003 k (fun (slices : List (List Int)) (size : Int) (t9 : List (List Int)) (t10 : Int) (t11 : Int) => x122 k k122_1003 (t122_1003 slices size t9 t10 t11)) (fun (newslices : List Int) (t25 : List (List Int)) (t26 : Int) (t27 : Int) => x122 k k122_1011 (t122_1011 newslices t25 t26 t27)) slices size t9 t10 t11 := by kernel_rfl
theorem e122_1011 (k : Nat) (newslices : List Int) (t25 : List (List Int)) (t26 : Int) (t27 : Int) : x122 (k + 1) k122_1011 (t122_1011 newslices t25 t26 t27) = F122_1011 k (fun (slices : List (List Int)) (size : Int) (t9 : List (List Int)) (t10 : Int) (t11 : Int) => x122 k k122_1003 (t122_1003 slices size t9 t10 t11)) (fun (newslices : List Int) (t25 : List (List Int)) (t26 : Int) (t27 : Int) => x122 k k122_1011 (t122_1011 newslices t25 t26 t27)) newslices t25 t26 t27 := by kernel_rfl
theorem q122 : ∀ k : Nat, ((fun (slices : List (List Int)) (size : Int) (t9 : List (List Int)) (t10 : Int) (t11 : Int) => x122 k k122_1003 (t122_1003 slices size t9 t10 t11)), (fun (newslices : List Int) (t25 : List (List Int)) (t26 : Int) (t27 : Int) => x122 k k122_1011 (t122_1011 newslices t25 t26 t27))) = l122 k
  | 0 => rfl
  | k + 1 => by
    have h := q122 k
    show _ = (F122_1003 k ((l122 k).1) ((l122 k).2), F122_1011 k ((l122 k).1) ((l122 k).2))
    rw [← h]
    exact (Prod.ext (funext fun slices => funext fun size => funext fun t9 => funext fun t10 => funext fun t11 => e122_1003 k slices size t9 t10 t11) (funext fun newslices => funext fun t25 => funext fun t26 => funext fun t27 => e122_1011 k newslices t25 t26 t27))
theorem w122 (k : Nat) (slices : List (List (Int))) : runFn ti (envOf env49) 36 h122 (finT ti true Go.Proofs.Try.f122.results.toList [(.slice 3 (.int .i64), false)] (.slice 3 (.int .i64))) k (bodyOf Go.Proofs.Try.f122) (initS 0 [.slc 22 (.slice 3 (.int .i64)) slices]) = F122 k (fun (slices : List (List Int)) (size : Int) (t9 : List (List Int)) (t10 : Int) (t11 : Int) => x122 k k122_1003 (t122_1003 slices size t9 t10 t11)) (fun (newslices : List Int) (t25 : List (List Int)) (t26 : Int) (t27 : Int) => x122 k k122_1011 (t122_1011 newslices t25 t26 t27)) slices := by kernel_rfl
theorem v122 (k : Nat) (slices : List (List (Int))) : runFn ti (envOf env49) 36 h122 (finT ti true Go.Proofs.Try.f122.results.toList [(.slice 3 (.int .i64), false)] (.slice 3 (.int .i64))) k (bodyOf Go.Proofs.Try.f122) (initS 0 [.slc 22 (.slice 3 (.int .i64)) slices]) = f122 k slices := by
  rw [w122]
  have h := q122 k
  unfold f122
  rw [← h]
theorem m122 : Meets Go.Proofs.Try.prog 122 s122 := meets_of_run tiOk env49_ok mo Go.Proofs.Try.func122 (body := bodyOf Go.Proofs.Try.f122) (by kernel_rfl) (N := 36) (by kernel_rfl) (hs := h122) (by
  intro k xs r h
  unfold s122 at h
  dsimp only at h
  split at h
  · exact ⟨Nat.le_of_ble_eq_true rfl, (v122 k _).trans h⟩
  · cases h)
theorem env50_ok : EnvOk Go.Proofs.Try.prog (envOf env50) := envOf_cons m122 Go.Proofs.Try.func122 (by kernel_rfl) (by kernel_rfl) env49_ok

-- impl.boxOf
def h106 : Hints := [(1002, .lab [(6, .box 32 [.v, .v, .v]), (8, .box 32 [.v, .own 3 (Ty.int IntKind.i64), .own 3 (Ty.int IntKind.i64)])]), (1008, .lab [(6, .box 32 [.v, .v, .v]), (8, .box 32 [.v, .own 3 (Ty.int IntKind.i64), .own 3 (Ty.int IntKind.i64)]), (10, .one (.own 3 (Ty.int IntKind.i64))), (39, .rbox 22 [.own 3 (.int .i64), .own 3 (.int .i64)]), (40, .one (.v)), (41, .one (.v)), (46, .one (.v)), (47, .one (.v))]), (1005, .unr 3)]
noncomputable def F106_1002 (k : Nat) (rec1002 : Int → Int → List Int → List Int → Option ((Int × (List (Int)) × List (Int)) × Bool)) (rec11008 : Int → Int → List Int → List Int → Int → Int → Option ((Int × (List (Int)) × List (Int)) × Bool)) (rec21008 : Int → Int → List Int → List Int → Int → Int → Option ((Int × (List (Int)) × List (Int)) × Bool)) (t6s_0 : Int) (bs_0 : Int) (bs : List Int) (bs' : List Int) : Option ((Int × (List (Int)) × List (Int)) × Bool) :=
  bif decide (0 < bs_0) then
    (f122 k [bs, bs']).bind fun r0 =>
    (f121_123 k r0).bind fun r1 =>
    bif !r1 then
      rec11008 t6s_0 (IntKind.wrap IntKind.i64 (bs_0 - 1)) bs bs' ((↑(List.length bs) : Int)) (0)
    else
      (f60 k (bs_0, bs, bs')).bind fun r2 =>
      bif !r2 then
        some (((0, [], []), false))
      else
        some (((bs_0, bs, bs'), true))
  else
    (f60 k (bs_0, bs, bs')).bind fun r3 =>
    bif !r3 then
      some (((0, [], []), false))
    else
      some (((bs_0, bs, bs'), true))
noncomputable def F106_11008 (k : Nat) (rec1002 : Int → Int → List Int → List Int → Option ((Int × (List (Int)) × List (Int)) × Bool)) (rec11008 : Int → Int → List Int → List Int → Int → Int → Option ((Int × (List (Int)) × List (Int)) × Bool)) (rec21008 : Int → Int → List Int → List Int → Int → Int → Option ((Int × (List (Int)) × List (Int)) × Bool)) (t6s_0 : Int) (bs_0 : Int) (bs : List Int) (bs' : List Int) (t46 : Int) (t47 : Int) : Option ((Int × (List (Int)) × List (Int)) × Bool) :=
  bif decide (t47 < t46) then
    bif boundA t47 (List.length bs) then
      bif Nat.blt (Int.toNat t47) (List.length bs) then
        bif boundA t47 (List.length bs) then
          bif Nat.blt (Int.toNat t47) (List.length bs) then
            rec11008 t6s_0 bs_0 (List.set bs (Int.toNat t47) (IntKind.wrap IntKind.i64 (Int.tdiv (List.getD bs (Int.toNat t47) 0) 2))) bs' t46 (IntKind.wrap IntKind.i64 (t47 + 1))
          else
            none
        else
          none
      else
        none
    else
      none
  else
    rec21008 t6s_0 bs_0 bs bs' ((↑(List.length bs') : Int)) (0)
noncomputable def F106_21008 (k : Nat) (rec1002 : Int → Int → List Int → List Int → Option ((Int × (List (Int)) × List (Int)) × Bool)) (rec11008 : Int → Int → List Int → List Int → Int → Int → Option ((Int × (List (Int)) × List (Int)) × Bool)) (rec21008 : Int → Int → List Int → List Int → Int → Int → Option ((Int × (List (Int)) × List (Int)) × Bool)) (t6s_0 : Int) (bs_0 : Int) (bs : List Int) (bs' : List Int) (t46 : Int) (t47 : Int) : Option ((Int × (List (Int)) × List (Int)) × Bool) :=
  bif decide (t47 < t46) then
    bif boundA t47 (List.length bs') then
      bif Nat.blt (Int.toNat t47) (List.length bs') then
        bif boundA t47 (List.length bs') then
          bif Nat.blt (Int.toNat t47) (List.length bs') then
            rec21008 t6s_0 bs_0 bs (List.set bs' (Int.toNat t47) (IntKind.wrap IntKind.i64 (Int.tdiv (List.getD bs' (Int.toNat t47) 0) 2))) t46 (IntKind.wrap IntKind.i64 (t47 + 1))
          else
            none
        else
          none
      else
        none
    else
      none
  else
    rec1002 t6s_0 bs_0 bs bs'
noncomputable def F106 (k : Nat) (rec1002 : Int → Int → List Int → List Int → Option ((Int × (List (Int)) × List (Int)) × Bool)) (rec11008 : Int → Int → List Int → List Int → Int → Int → Option ((Int × (List (Int)) × List (Int)) × Bool)) (rec21008 : Int → Int → List Int → List Int → Int → Int → Option ((Int × (List (Int)) × List (Int)) × Bool)) (k_ : Int) (low : List (Int)) (high : List (Int)) : Option ((Int × (List (Int)) × List (Int)) × Bool) :=
  (f105 k low).bind fun r0 =>
  (f105 k high).bind fun r1 =>
  rec1002 (0) k_ r0 r1
noncomputable def l106 : Nat → (Int → Int → List Int → List Int → Option ((Int × (List (Int)) × List (Int)) × Bool)) × (Int → Int → List Int → List Int → Int → Int → Option ((Int × (List (Int)) × List (Int)) × Bool)) × (Int → Int → List Int → List Int → Int → Int → Option ((Int × (List (Int)) × List (Int)) × Bool))
  | 0 => (fun _ _ _ _ => none, fun _ _ _ _ _ _ => none, fun _ _ _ _ _ _ => none)
  | k + 1 => (F106_1002 k ((l106 k).1) ((l106 k).2.1) ((l106 k).2.2), F106_11008 k ((l106 k).1) ((l106 k).2.1) ((l106 k).2.2), F106_21008 k ((l106 k).1) ((l106 k).2.1) ((l106 k).2.2))
noncomputable def f106 (k : Nat) (k_ : Int) (low : List (Int)) (high : List (Int)) : Option ((Int × (List (Int)) × List (Int)) × Bool) := F106 k ((l106 k).1) ((l106 k).2.1) ((l106 k).2.2) k_ low high
noncomputable def s106 : Spec := ⟨false, [(.pair (.int .i64) (.pair (.slice 3 (.int .i64)) (.slice 3 (.int .i64))), true), (.bool, false)], true, .pair (.pair (.int .i64) (.pair (.slice 3 (.int .i64)) (.slice 3 (.int .i64)))) (.bool), fun k xs => match xs with | [.int .i64 k_, .slc 3 (.int .i64) low, .slc 3 (.int .i64) high] => f106 k k_ low high | _ => none, false, none⟩
noncomputable def env51 : List (FuncId × Spec) := (106, s106) :: env50
noncomputable abbrev x106 := exec ti (envOf env50) 62 h106 (finT ti true Go.Proofs.Try.f106.results.toList [(.pair (.int .i64) (.pair (.slice 3 (.int .i64)) (.slice 3 (.int .i64))), true), (.bool, false)] (.pair (.pair (.int .i64) (.pair (.slice 3 (.int .i64)) (.slice 3 (.int .i64)))) (.bool)))
noncomputable def k106_1002 : List It := stackAt [.r, .r, .l, .b, .lb none] (bodyOf Go.Proofs.Try.f106) []
def t106_1002 (t6s_0 : Int) (bs_0 : Int) (bs : List Int) (bs' : List Int) : St := [(12, Cell.val (AVal.ptr 33 0)), (33, Cell.mem true 32 [AVal.int IntKind.i64 t6s_0, AVal.nilslc, AVal.nilslc]), (16, Cell.val (AVal.ptr 35 0)), (35, Cell.mem true 32 [AVal.int IntKind.i64 bs_0, AVal.ref 37 none, AVal.ref 39 none]), (37, Cell.row true 3 (Ty.int IntKind.i64) bs), (39, Cell.row true 3 (Ty.int IntKind.i64) bs')]
noncomputable def k106_11008 : List It := stackAt [.r, .r, .l, .b, .lb none, .r, .b, .r, .r, .b, .lb (some 2), .r, .r, .l, .b, .r, .r, .b, .lb none] (bodyOf Go.Proofs.Try.f106) []
def t106_11008 (t6s_0 : Int) (bs_0 : Int) (bs : List Int) (bs' : List Int) (t46 : Int) (t47 : Int) : St := [(12, Cell.val (AVal.ptr 33 0)), (33, Cell.mem true 32 [AVal.int IntKind.i64 t6s_0, AVal.nilslc, AVal.nilslc]), (16, Cell.val (AVal.ptr 35 0)), (35, Cell.mem true 32 [AVal.int IntKind.i64 bs_0, AVal.ref 37 none, AVal.ref 39 none]), (37, Cell.row true 3 (Ty.int IntKind.i64) bs), (39, Cell.row true 3 (Ty.int IntKind.i64) bs'), (20, Cell.val (AVal.ref 37 none)), (78, Cell.val (AVal.ref 41 none)), (41, Cell.mem true 22 [AVal.ref 37 none, AVal.ref 39 none]), (80, Cell.val (AVal.int IntKind.i64 (Int.ofNat 2))), (82, Cell.val (AVal.int IntKind.i64 (Int.ofNat 0))), (92, Cell.val (AVal.int IntKind.i64 t46)), (94, Cell.val (AVal.int IntKind.i64 t47))]
noncomputable def k106_21008 : List It := stackAt [.r, .r, .l, .b, .lb none, .r, .b, .r, .r, .b, .lb (some 1), .r, .r, .l, .b, .r, .r, .b, .lb none] (bodyOf Go.Proofs.Try.f106) []
def t106_21008 (t6s_0 : Int) (bs_0 : Int) (bs : List Int) (bs' : List Int) (t46 : Int) (t47 : Int) : St := [(12, Cell.val (AVal.ptr 33 0)), (33, Cell.mem true 32 [AVal.int IntKind.i64 t6s_0, AVal.nilslc, AVal.nilslc]), (16, Cell.val (AVal.ptr 35 0)), (35, Cell.mem true 32 [AVal.int IntKind.i64 bs_0, AVal.ref 37 none, AVal.ref 39 none]), (37, Cell.row true 3 (Ty.int IntKind.i64) bs), (39, Cell.row true 3 (Ty.int IntKind.i64) bs'), (20, Cell.val (AVal.ref 39 none)), (78, Cell.val (AVal.ref 41 none)), (41, Cell.mem true 22 [AVal.ref 37 none, AVal.ref 39 none]), (80, Cell.val (AVal.int IntKind.i64 (Int.ofNat 2))), (82, Cell.val (AVal.int IntKind.i64 (Int.ofNat 1))), (92, Cell.val (AVal.int IntKind.i64 t46)), (94, Cell.val (AVal.int IntKind.i64 t47))]
theorem e106_1002 (k : Nat) (t6s_0 : Int) (bs_0 : Int) (bs : List Int) (bs' : List Int) : x106 (k + 1) k106_1002 (t106_1002 t6s_0 bs_0 bs bs') = F106_1002 k (fun (t6s_0 : Int) (bs_0 : Int) (bs : List Int) (bs' : List Int) => x106 k k106_1002 (t106_1002 t6s_0 bs_0 bs bs')) (fun (t6s_0 : Int) (bs_0 : Int) (bs : List Int) (bs' : List Int) (t46 : Int) (t47 : Int) => x106 k k106_11008 (t106_11008 t6s_0 bs_0 bs bs' t46 t47)) (fun (t6s_0 : Int) (bs_0 : Int) (bs : List Int) (bs' : List Int) (t46 : Int) (t47 : Int) => x106 k k106_21008 (t106_21008 t6s_0 bs_0 bs bs' t46 t47)) t6s_0 bs_0 bs bs' := by kernel_rfl
theorem e106_11008 (k : Nat) (t6s_0 : Int) (bs_0 : Int) (bs : List Int) (bs' : List Int) (t46 : Int) (t47 : Int) : x106 (k + 1) k106_11008 (t106_11008 t6s_0 bs_0 bs bs' t46 t47) = F106_11008 k (fun (t6s_0 : Int) (bs_0 : Int) (bs : List Int) (bs' : List Int) => x106 k k106_1002 (t106_1002 t6s_0 bs_0 bs bs')) (fun (t6s_0 : Int) (bs_0 : Int) (bs : List Int) (bs' : List Int) (t46 : Int) (t47 : Int) => x106 k k106_11008 (t106_11008 t6s_0 bs_0 bs bs' t46 t47)) (fun (t6s_0 : Int) (bs_0 : Int) (bs : List Int) (bs' : List Int) (t46 : Int) (t47 : Int) => x106 k k106_21008 (t106_21008 t6s_0 bs_0 bs bs' t46 t47)) t6s_0 bs_0 bs bs' t46 t47 := by kernel_rfl
theorem e106_21008 (k : Nat) (t6s_0 : Int) (bs_0 : Int) (bs : List Int) (bs' : List Int) (t46 : Int) (t47 : Int) : x106 (k + 1) k106_21008 (t106_21008 t6s_0 bs_0 bs bs' t46 t47) = F106_21008 k (fun (t6s_0 : Int) (bs_0 : Int) (bs : List Int) (bs' : List Int) => x106 k k106_1002 (t106_1002 t6s_0 bs_0 bs bs')) (fun (t6s_0 : Int) (bs_0 : Int) (bs : List Int) (bs' : List Int) (t46 : Int) (t47 : Int) => x106 k k106_11008 (t106_11008 t6s_0 bs_0 bs bs' t46 t47)) (fun (t6s_0 : Int) (bs_0 : Int) (bs : List Int) (bs' : List Int) (t46 : Int) (t47 : Int) => x106 k k106_21008 (t106_21008 t6s_0 bs_0 bs bs' t46 t47)) t6s_0 bs_0 bs bs' t46 t47 := by kernel_rfl
theorem q106 : ∀ k : Nat, ((fun (t6s_0 : Int) (bs_0 : Int) (bs : List Int) (bs' : List Int) => x106 k k106_1002 (t106_1002 t6s_0 bs_0 bs bs')), (fun (t6s_0 : Int) (bs_0 : Int) (bs : List Int) (bs' : List Int) (t46 : Int) (t47 : Int) => x106 k k106_11008 (t106_11008 t6s_0 bs_0 bs bs' t46 t47)), (fun (t6s_0 : Int) (bs_0 : Int) (bs : List Int) (bs' : List Int) (t46 : Int) (t47 : Int) => x106 k k106_21008 (t106_21008 t6s_0 bs_0 bs bs' t46 t47))) = l106 k
  | 0 => rfl
  | k + 1 => by
    have h := q106 k
    show _ = (F106_1002 k ((l106 k).1) ((l106 k).2.1) ((l106 k).2.2), F106_11008 k ((l106 k).1) ((l106 k).2.1) ((l106 k).2.2), F106_21008 k ((l106 k).1) ((l106 k).2.1) ((l106 k).2.2))
    rw [← h]
    exact (Prod.ext (funext fun t6s_0 => funext fun bs_0 => funext fun bs => funext fun bs' => e106_1002 k t6s_0 bs_0 bs bs') (Prod.ext (funext fun t6s_0 => funext fun bs_0 => funext fun bs => funext fun bs' => funext fun t46 => funext fun t47 => e106_11008 k t6s_0 bs_0 bs bs' t46 t47) (funext fun t6s_0 => funext fun bs_0 => funext fun bs => funext fun bs' => funext fun t46 => funext fun t47 => e106_21008 k t6s_0 bs_0 bs bs' t46 t47)))
theorem w106 (k : Nat) (k_ : Int) (low : List (Int)) (high : List (Int)) : runFn ti (envOf env50) 62 h106 (finT ti true Go.Proofs.Try.f106.results.toList [(.pair (.int .i64) (.pair (.slice 3 (.int .i64)) (.slice 3 (.int .i64))), true), (.bool, false)] (.pair (.pair (.int .i64) (.pair (.slice 3 (.int .i64)) (.slice 3 (.int .i64)))) (.bool))) k (bodyOf Go.Proofs.Try.f106) (initS 0 [.int .i64 k_, .slc 3 (.int .i64) low, .slc 3 (.int .i64) high]) = F106 k (fun (t6s_0 : Int) (bs_0 : Int) (bs : List Int) (bs' : List Int) => x106 k k106_1002 (t106_1002 t6s_0 bs_0 bs bs')) (fun (t6s_0 : Int) (bs_0 : Int) (bs : List Int) (bs' : List Int) (t46 : Int) (t47 : Int) => x106 k k106_11008 (t106_11008 t6s_0 bs_0 bs bs' t46 t47)) (fun (t6s_0 : Int) (bs_0 : Int) (bs : List Int) (bs' : List Int) (t46 : Int) (t47 : Int) => x106 k k106_21008 (t106_21008 t6s_0 bs_0 bs bs' t46 t47)) k_ low high := by kernel_rfl
theorem v106 (k : Nat) (k_ : Int) (low : List (Int)) (high : List (Int)) : runFn ti (envOf env50) 62 h106 (finT ti true Go.Proofs.Try.f106.results.toList [(.pair (.int .i64) (.pair (.slice 3 (.int .i64)) (.slice 3 (.int .i64))), true), (.bool, false)] (.pair (.pair (.int .i64) (.pair (.slice 3 (.int .i64)) (.slice 3 (.int .i64)))) (.bool))) k (bodyOf Go.Proofs.Try.f106) (initS 0 [.int .i64 k_, .slc 3 (.int .i64) low, .slc 3 (.int .i64) high]) = f106 k k_ low high := by
  rw [w106]
  have h := q106 k
  unfold f106
  rw [← h]
theorem m106 : Meets Go.Proofs.Try.prog 106 s106 := meets_of_run tiOk env50_ok mo Go.Proofs.Try.func106 (body := bodyOf Go.Proofs.Try.f106) (by kernel_rfl) (N := 62) (by kernel_rfl) (hs := h106) (by
  intro k xs r h
  unfold s106 at h
  dsimp only at h
  split at h
  · exact ⟨Nat.le_of_ble_eq_true rfl, (v106 k _ _ _).trans h⟩
  · cases h)
theorem env51_ok : EnvOk Go.Proofs.Try.prog (envOf env51) := envOf_cons m106 Go.Proofs.Try.func106 (by kernel_rfl) (by kernel_rfl) env50_ok

-- impl.Box).halves
noncomputable def f72 (k : Nat) (L : Int × (List (Int)) × List (Int)) (i : Int) : Option ((List (Int × (List (Int)) × List (Int))) × Bool) :=
  (f104 k L.snd.fst 1).bind fun r0 =>
  (f104 k L.snd.snd 1).bind fun r1 =>
  bif boundA i (List.length L.snd.fst) then
    bif boundA i (List.length L.snd.snd) then
      (f105 k r1).bind fun r2 =>
      (f105 k r0).bind fun r3 =>
      bif boundA i (List.length r2) then
        bif Nat.blt (Int.toNat i) (List.length r2) then
          bif boundA i (List.length r3) then
            bif Nat.blt (Int.toNat i) (List.length r3) then
              (f106 k (IntKind.wrap IntKind.i64 (L.fst + 1)) r0 (List.set r2 (Int.toNat i) (IntKind.wrap IntKind.i64 (List.getD L.snd.fst (Int.toNat i) 0 + List.getD L.snd.snd (Int.toNat i) 0)))).bind fun r4 =>
              (f106 k (IntKind.wrap IntKind.i64 (L.fst + 1)) (List.set r3 (Int.toNat i) (IntKind.wrap IntKind.i64 (List.getD L.snd.fst (Int.toNat i) 0 + List.getD L.snd.snd (Int.toNat i) 0))) r1).bind fun r5 =>
              bif !r4.snd then
                some (([], false))
              else
                bif !r5.snd then
                  some (([], false))
                else
                  some (([(r4.fst.fst, r4.fst.snd.fst, r4.fst.snd.snd), (r5.fst.fst, r5.fst.snd.fst, r5.fst.snd.snd)], true))
            else
              none
          else
            none
        else
          none
      else
        none
    else
      none
  else
    none
noncomputable def s72 : Spec := ⟨false, [(.slice 32 (.pair (.int .i64) (.pair (.slice 3 (.int .i64)) (.slice 3 (.int .i64)))), false), (.bool, false)], true, .pair (.slice 32 (.pair (.int .i64) (.pair (.slice 3 (.int .i64)) (.slice 3 (.int .i64))))) (.bool), fun k xs => match xs with | [.fptr (.pair (.int .i64) (.pair (.slice 3 (.int .i64)) (.slice 3 (.int .i64)))) L, .int .i64 i] => f72 k L i | _ => none, false, none⟩
noncomputable def env52 : List (FuncId × Spec) := (72, s72) :: env51
theorem v72 (k : Nat) (L : Int × (List (Int)) × List (Int)) (i : Int) : runFn ti (envOf env51) 83 [] (finT ti true Go.Proofs.Try.f72.results.toList [(.slice 32 (.pair (.int .i64) (.pair (.slice 3 (.int .i64)) (.slice 3 (.int .i64)))), false), (.bool, false)] (.pair (.slice 32 (.pair (.int .i64) (.pair (.slice 3 (.int .i64)) (.slice 3 (.int .i64))))) (.bool))) k (bodyOf Go.Proofs.Try.f72) (initS 0 [.fptr (.pair (.int .i64) (.pair (.slice 3 (.int .i64)) (.slice 3 (.int .i64)))) L, .int .i64 i]) = f72 k L i := by kernel_rfl
theorem m72 : Meets Go.Proofs.Try.prog 72 s72 := meets_of_run tiOk env51_ok mo Go.Proofs.Try.func72 (body := bodyOf Go.Proofs.Try.f72) (by kernel_rfl) (N := 83) (by kernel_rfl) (hs := []) (by
  intro k xs r h
  unfold s72 at h
  dsimp only at h
  split at h
  · exact ⟨Nat.le_of_ble_eq_true rfl, (v72 k _ _).trans h⟩
  · cases h)
theorem env52_ok : EnvOk Go.Proofs.Try.prog (envOf env52) := envOf_cons m72 Go.Proofs.Try.func72 (by kernel_rfl) (by kernel_rfl) env51_ok

-- impl.copyBoxes
def h73 : Hints := [(1003, .lab [(3, .one (.own 32 (Ty.pair (Ty.int IntKind.i64) (Ty.pair (Ty.slice 3 (Ty.int IntKind.i64)) (Ty.slice 3 (Ty.int IntKind.i64)))))), (6, .one (.frz 32 (Ty.pair (Ty.int IntKind.i64) (Ty.pair (Ty.slice 3 (Ty.int IntKind.i64)) (Ty.slice 3 (Ty.int IntKind.i64)))))), (7, .one (.v)), (8, .one (.v))])]
noncomputable def F73_1003 (k : Nat) (rec1003 : List (Int × List Int × List Int) → List (Int × List Int × List Int) → Int → Int → Option (List (Int × (List (Int)) × List (Int)))) (outs : List (Int × List Int × List Int)) (t6 : List (Int × List Int × List Int)) (t7 : Int) (t8 : Int) : Option (List (Int × (List (Int)) × List (Int))) :=
  bif decide (t8 < t7) then
    bif boundA t8 (List.length t6) then
      (f105 k (List.getD t6 (Int.toNat t8) (0, [], [])).snd.fst).bind fun r0 =>
      (f105 k (List.getD t6 (Int.toNat t8) (0, [], [])).snd.snd).bind fun r1 =>
      bif decide ((List.length outs + List.length [((List.getD t6 (Int.toNat t8) (0, [], [])).fst, r0, r1)]) * 56 ≤ 140737488355328) then
        rec1003 (outs ++ [((List.getD t6 (Int.toNat t8) (0, [], [])).fst, r0, r1)]) t6 t7 (IntKind.wrap IntKind.i64 (t8 + 1))
      else
        none
    else
      none
  else
    some outs
noncomputable def F73 (k : Nat) (rec1003 : List (Int × List Int × List Int) → List (Int × List Int × List Int) → Int → Int → Option (List (Int × (List (Int)) × List (Int)))) (l : List (Int × (List (Int)) × List (Int))) : Option (List (Int × (List (Int)) × List (Int))) :=
  rec1003 ([]) l ((↑(List.length l) : Int)) (0)
noncomputable def l73 : Nat → (List (Int × List Int × List Int) → List (Int × List Int × List Int) → Int → Int → Option (List (Int × (List (Int)) × List (Int))))
  | 0 => fun _ _ _ _ => none
  | k + 1 => F73_1003 k (l73 k)
noncomputable def f73 (k : Nat) (l : List (Int × (List (Int)) × List (Int))) : Option (List (Int × (List (Int)) × List (Int))) := F73 k (l73 k) l
noncomputable def s73 : Spec := ⟨false, [(.slice 32 (.pair (.int .i64) (.pair (.slice 3 (.int .i64)) (.slice 3 (.int .i64)))), false)], true, .slice 32 (.pair (.int .i64) (.pair (.slice 3 (.int .i64)) (.slice 3 (.int .i64)))), fun k xs => match xs with | [.slc 32 (.pair (.int .i64) (.pair (.slice 3 (.int .i64)) (.slice 3 (.int .i64)))) l] => f73 k l | _ => none, false, none⟩
noncomputable def env53 : List (FuncId × Spec) := (73, s73) :: env52
noncomputable abbrev x73 := exec ti (envOf env52) 26 h73 (finT ti true Go.Proofs.Try.f73.results.toList [(.slice 32 (.pair (.int .i64) (.pair (.slice 3 (.int .i64)) (.slice 3 (.int .i64)))), false)] (.slice 32 (.pair (.int .i64) (.pair (.slice 3 (.int .i64)) (.slice 3 (.int .i64))))))
noncomputable def k73_1003 : List It := stackAt [.r, .r, .l, .r, .b, .lb none] (bodyOf Go.Proofs.Try.f73) []
def t73_1003 (outs : List (Int × List Int × List Int)) (t6 : List (Int × List Int × List Int)) (t7 : Int) (t8 : Int) : St := [(6, Cell.val (AVal.ref 33 none)), (33, Cell.row true 32 (Ty.pair (Ty.int IntKind.i64) (Ty.pair (Ty.slice 3 (Ty.int IntKind.i64)) (Ty.slice 3 (Ty.int IntKind.i64)))) outs), (12, Cell.val (AVal.slc 32 (Ty.pair (Ty.int IntKind.i64) (Ty.pair (Ty.slice 3 (Ty.int IntKind.i64)) (Ty.slice 3 (Ty.int IntKind.i64)))) t6)), (14, Cell.val (AVal.int IntKind.i64 t7)), (16, Cell.val (AVal.int IntKind.i64 t8))]
theorem e73_1003 (k : Nat) (outs : List (Int × List Int × List Int)) (t6 : List (Int × List Int × List Int)) (t7 : Int) (t8 : Int) : x73 (k + 1) k73_1003 (t73_1003 outs t6 t7 t8) = F73_1003 k (fun (outs : List (Int × List Int × List Int)) (t6 : List (Int × List Int × List Int)) (t7 : Int) (t8 : Int) => x73 k k73_1003 (t73_1003 outs t6 t7 t8)) outs t6 t7 t8 := by kernel_rfl
theorem q73 : ∀ k : Nat, (fun (outs : List (Int × List Int × List Int)) (t6 : List (Int × List Int × List Int)) (t7 : Int) (t8 : Int) => x73 k k73_1003 (t73_1003 outs t6 t7 t8)) = l73 k
  | 0 => rfl
  | k + 1 => by
    have h := q73 k
    show _ = F73_1003 k (l73 k)
    rw [← h]
    exact (funext fun outs => funext fun t6 => funext fun t7 => funext fun t8 => e73_1003 k outs t6 t7 t8)
theorem w73 (k : Nat) (l : List (Int × (List (Int)) × List (Int))) : runFn ti (envOf env52) 26 h73 (finT ti true Go.Proofs.Try.f73.results.toList [(.slice 32 (.pair (.int .i64) (.pair (.slice 3 (.int .i64)) (.slice 3 (.int .i64)))), false)] (.slice 32 (.pair (.int .i64) (.pair (.slice 3 (.int .i64)) (.slice 3 (.int .i64)))))) k (bodyOf Go.Proofs.Try.f73) (initS 0 [.slc 32 (.pair (.int .i64) (.pair (.slice 3 (.int .i64)) (.slice 3 (.int .i64)))) l]) = F73 k (fun (outs : List (Int × List Int × List Int)) (t6 : List (Int × List Int × List Int)) (t7 : Int) (t8 : Int) => x73 k k73_1003 (t73_1003 outs t6 t7 t8)) l := by kernel_rfl
theorem v73 (k : Nat) (l : List (Int × (List (Int)) × List (Int))) : runFn ti (envOf env52) 26 h73 (finT ti true Go.Proofs.Try.f73.results.toList [(.slice 32 (.pair (.int .i64) (.pair (.slice 3 (.int .i64)) (.slice 3 (.int .i64)))), false)] (.slice 32 (.pair (.int .i64) (.pair (.slice 3 (.int .i64)) (.slice 3 (.int .i64)))))) k (bodyOf Go.Proofs.Try.f73) (initS 0 [.slc 32 (.pair (.int .i64) (.pair (.slice 3 (.int .i64)) (.slice 3 (.int .i64)))) l]) = f73 k l := by
  rw [w73]
  have h := q73 k
  unfold f73
  rw [← h]
theorem m73 : Meets Go.Proofs.Try.prog 73 s73 := meets_of_run tiOk env52_ok mo Go.Proofs.Try.func73 (body := bodyOf Go.Proofs.Try.f73) (by kernel_rfl) (N := 26) (by kernel_rfl) (hs := h73) (by
  intro k xs r h
  unfold s73 at h
  dsimp only at h
  split at h
  · exact ⟨Nat.le_of_ble_eq_true rfl, (v73 k _).trans h⟩
  · cases h)
theorem env53_ok : EnvOk Go.Proofs.Try.prog (envOf env53) := envOf_cons m73 Go.Proofs.Try.func73 (by kernel_rfl) (by kernel_rfl) env52_ok

-- impl.leafBoxes
def h45 : Hints := [(1004, .lab [(6, .one (.own 32 (Ty.pair (Ty.int IntKind.i64) (Ty.pair (Ty.slice 3 (Ty.int IntKind.i64)) (Ty.slice 3 (Ty.int IntKind.i64)))))), (7, .one (.own 32 (Ty.pair (Ty.int IntKind.i64) (Ty.pair (Ty.slice 3 (Ty.int IntKind.i64)) (Ty.slice 3 (Ty.int IntKind.i64)))))), (17, .one (.frz 63 (Ty.pair (Ty.int IntKind.i64) (Ty.int IntKind.i64)))), (18, .one (.v)), (19, .one (.v))])]
noncomputable def F45_1004 (k : Nat) (rec1004 : List (Int × List Int × List Int) → List (Int × List Int × List Int) → List (Int × Int) → Int → Int → Option ((List (Int × (List (Int)) × List (Int))) × Bool)) (open_s : List (Int × List Int × List Int)) (outs : List (Int × List Int × List Int)) (t17 : List (Int × Int)) (t18 : Int) (t19 : Int) : Option ((List (Int × (List (Int)) × List (Int))) × Bool) :=
  bif decide (t19 < t18) then
    bif boundA t19 (List.length t17) then
      bif boundA (IntKind.wrap IntKind.i64 ((↑(List.length open_s) : Int) - 1)) (List.length open_s) then
        bif Nat.blt (Int.toNat (IntKind.wrap IntKind.i64 ((↑(List.length open_s) : Int) - 1))) (List.length open_s) then
          bif boundE (IntKind.wrap IntKind.i64 ((↑(List.length open_s) : Int) - 1)) (List.length open_s) then
            bif !decide ((List.getD t17 (Int.toNat t19) (0, 0)).fst = 0) then
              bif decide ((List.length outs + List.length [((List.getD open_s (Int.toNat (IntKind.wrap IntKind.i64 ((↑(List.length open_s) : Int) - 1))) (0, [], [])).fst, (List.getD open_s (Int.toNat (IntKind.wrap IntKind.i64 ((↑(List.length open_s) : Int) - 1))) (0, [], [])).snd.fst, (List.getD open_s (Int.toNat (IntKind.wrap IntKind.i64 ((↑(List.length open_s) : Int) - 1))) (0, [], [])).snd.snd)]) * 56 ≤ 140737488355328) then
                rec1004 (List.take (Int.toNat (IntKind.wrap IntKind.i64 ((↑(List.length open_s) : Int) - 1))) open_s) (outs ++ [((List.getD open_s (Int.toNat (IntKind.wrap IntKind.i64 ((↑(List.length open_s) : Int) - 1))) (0, [], [])).fst, (List.getD open_s (Int.toNat (IntKind.wrap IntKind.i64 ((↑(List.length open_s) : Int) - 1))) (0, [], [])).snd.fst, (List.getD open_s (Int.toNat (IntKind.wrap IntKind.i64 ((↑(List.length open_s) : Int) - 1))) (0, [], [])).snd.snd)]) t17 t18 (IntKind.wrap IntKind.i64 (t19 + 1))
              else
                none
            else
              (f72 k ((List.getD open_s (Int.toNat (IntKind.wrap IntKind.i64 ((↑(List.length open_s) : Int) - 1))) (0, [], [])).fst, (List.getD open_s (Int.toNat (IntKind.wrap IntKind.i64 ((↑(List.length open_s) : Int) - 1))) (0, [], [])).snd.fst, (List.getD open_s (Int.toNat (IntKind.wrap IntKind.i64 ((↑(List.length open_s) : Int) - 1))) (0, [], [])).snd.snd) (List.getD t17 (Int.toNat t19) (0, 0)).snd).bind fun r0 =>
              bif !r0.snd then
                some (([], false))
              else
                bif boundA 1 (List.length r0.fst) then
                  bif Nat.blt (Int.toNat 1) (List.length r0.fst) then
                    bif boundA 0 (List.length r0.fst) then
                      bif Nat.blt (Int.toNat 0) (List.length r0.fst) then
                        bif decide ((List.length (List.take (Int.toNat (IntKind.wrap IntKind.i64 ((↑(List.length open_s) : Int) - 1))) open_s) + List.length [((List.getD r0.fst (Int.toNat 1) (0, [], [])).fst, (List.getD r0.fst (Int.toNat 1) (0, [], [])).snd.fst, (List.getD r0.fst (Int.toNat 1) (0, [], [])).snd.snd), ((List.getD r0.fst (Int.toNat 0) (0, [], [])).fst, (List.getD r0.fst (Int.toNat 0) (0, [], [])).snd.fst, (List.getD r0.fst (Int.toNat 0) (0, [], [])).snd.snd)]) * 56 ≤ 140737488355328) then
                          rec1004 (List.take (Int.toNat (IntKind.wrap IntKind.i64 ((↑(List.length open_s) : Int) - 1))) open_s ++ [((List.getD r0.fst (Int.toNat 1) (0, [], [])).fst, (List.getD r0.fst (Int.toNat 1) (0, [], [])).snd.fst, (List.getD r0.fst (Int.toNat 1) (0, [], [])).snd.snd), ((List.getD r0.fst (Int.toNat 0) (0, [], [])).fst, (List.getD r0.fst (Int.toNat 0) (0, [], [])).snd.fst, (List.getD r0.fst (Int.toNat 0) (0, [], [])).snd.snd)]) outs t17 t18 (IntKind.wrap IntKind.i64 (t19 + 1))
                        else
                          none
                      else
                        none
                    else
                      none
                  else
                    none
                else
                  none
          else
            none
        else
          none
      else
        none
    else
      none
  else
    (f73 k outs).bind fun r1 =>
    some ((r1, true))
noncomputable def F45 (k : Nat) (rec1004 : List (Int × List Int × List Int) → List (Int × List Int × List Int) → List (Int × Int) → Int → Int → Option ((List (Int × (List (Int)) × List (Int))) × Bool)) (b : Int × (List (Int)) × List (Int)) (l : List (Int × Int)) : Option ((List (Int × (List (Int)) × List (Int))) × Bool) :=
  rec1004 ([(b.fst, b.snd.fst, b.snd.snd)]) ([]) l ((↑(List.length l) : Int)) (0)
noncomputable def l45 : Nat → (List (Int × List Int × List Int) → List (Int × List Int × List Int) → List (Int × Int) → Int → Int → Option ((List (Int × (List (Int)) × List (Int))) × Bool))
  | 0 => fun _ _ _ _ _ => none
  | k + 1 => F45_1004 k (l45 k)
noncomputable def f45 (k : Nat) (b : Int × (List (Int)) × List (Int)) (l : List (Int × Int)) : Option ((List (Int × (List (Int)) × List (Int))) × Bool) := F45 k (l45 k) b l
noncomputable def s45 : Spec := ⟨false, [(.slice 32 (.pair (.int .i64) (.pair (.slice 3 (.int .i64)) (.slice 3 (.int .i64)))), false), (.bool, false)], true, .pair (.slice 32 (.pair (.int .i64) (.pair (.slice 3 (.int .i64)) (.slice 3 (.int .i64))))) (.bool), fun k xs => match xs with | [.fptr (.pair (.int .i64) (.pair (.slice 3 (.int .i64)) (.slice 3 (.int .i64)))) b, .slc 63 (.pair (.int .i64) (.int .i64)) l] => f45 k b l | _ => none, false, none⟩
noncomputable def env54 : List (FuncId × Spec) := (45, s45) :: env53
noncomputable abbrev x45 := exec tiC (envOf env53) 61 h45 (finT tiC true Go.Proofs.Try.f45.results.toList [(.slice 32 (.pair (.int .i64) (.pair (.slice 3 (.int .i64)) (.slice 3 (.int .i64)))), false), (.bool, false)] (.pair (.slice 32 (.pair (.int .i64) (.pair (.slice 3 (.int .i64)) (.slice 3 (.int .i64))))) (.bool)))
noncomputable def k45_1004 : List It := stackAt [.r, .r, .r, .l, .r, .b, .lb none] (bodyOf Go.Proofs.Try.f45) []
def t45_1004 (open_s : List (Int × List Int × List Int)) (outs : List (Int × List Int × List Int)) (t17 : List (Int × Int)) (t18 : Int) (t19 : Int) : St := [(12, Cell.val (AVal.ref 33 none)), (33, Cell.row true 32 (Ty.pair (Ty.int IntKind.i64) (Ty.pair (Ty.slice 3 (Ty.int IntKind.i64)) (Ty.slice 3 (Ty.int IntKind.i64)))) open_s), (14, Cell.val (AVal.ref 35 none)), (35, Cell.row true 32 (Ty.pair (Ty.int IntKind.i64) (Ty.pair (Ty.slice 3 (Ty.int IntKind.i64)) (Ty.slice 3 (Ty.int IntKind.i64)))) outs), (34, Cell.val (AVal.slc 63 (Ty.pair (Ty.int IntKind.i64) (Ty.int IntKind.i64)) t17)), (36, Cell.val (AVal.int IntKind.i64 t18)), (38, Cell.val (AVal.int IntKind.i64 t19))]
theorem e45_1004 (k : Nat) (open_s : List (Int × List Int × List Int)) (outs : List (Int × List Int × List Int)) (t17 : List (Int × Int)) (t18 : Int) (t19 : Int) : x45 (k + 1) k45_1004 (t45_1004 open_s outs t17 t18 t19) = F45_1004 k (fun (open_s : List (Int × List Int × List Int)) (outs : List (Int × List Int × List Int)) (t17 : List (Int × Int)) (t18 : Int) (t19 : Int) => x45 k k45_1004 (t45_1004 open_s outs t17 t18 t19)) open_s outs t17 t18 t19 := by kernel_rfl
theorem q45 : ∀ k : Nat, (fun (open_s : List (Int × List Int × List Int)) (outs : List (Int × List Int × List Int)) (t17 : List (Int × Int)) (t18 : Int) (t19 : Int) => x45 k k45_1004 (t45_1004 open_s outs t17 t18 t19)) = l45 k
  | 0 => rfl
  | k + 1 => by
    have h := q45 k
    show _ = F45_1004 k (l45 k)
    rw [← h]
    exact (funext fun open_s => funext fun outs => funext fun t17 => funext fun t18 => funext fun t19 => e45_1004 k open_s outs t17 t18 t19)
theorem w45 (k : Nat) (b : Int × (List (Int)) × List (Int)) (l : List (Int × Int)) : runFn tiC (envOf env53) 61 h45 (finT tiC true Go.Proofs.Try.f45.results.toList [(.slice 32 (.pair (.int .i64) (.pair (.slice 3 (.int .i64)) (.slice 3 (.int .i64)))), false), (.bool, false)] (.pair (.slice 32 (.pair (.int .i64) (.pair (.slice 3 (.int .i64)) (.slice 3 (.int .i64))))) (.bool))) k (bodyOf Go.Proofs.Try.f45) (initS 0 [.fptr (.pair (.int .i64) (.pair (.slice 3 (.int .i64)) (.slice 3 (.int .i64)))) b, .slc 63 (.pair (.int .i64) (.int .i64)) l]) = F45 k (fun (open_s : List (Int × List Int × List Int)) (outs : List (Int × List Int × List Int)) (t17 : List (Int × Int)) (t18 : Int) (t19 : Int) => x45 k k45_1004 (t45_1004 open_s outs t17 t18 t19)) b l := by kernel_rfl
theorem v45 (k : Nat) (b : Int × (List (Int)) × List (Int)) (l : List (Int × Int)) : runFn tiC (envOf env53) 61 h45 (finT tiC true Go.Proofs.Try.f45.results.toList [(.slice 32 (.pair (.int .i64) (.pair (.slice 3 (.int .i64)) (.slice 3 (.int .i64)))), false), (.bool, false)] (.pair (.slice 32 (.pair (.int .i64) (.pair (.slice 3 (.int .i64)) (.slice 3 (.int .i64))))) (.bool))) k (bodyOf Go.Proofs.Try.f45) (initS 0 [.fptr (.pair (.int .i64) (.pair (.slice 3 (.int .i64)) (.slice 3 (.int .i64)))) b, .slc 63 (.pair (.int .i64) (.int .i64)) l]) = f45 k b l := by
  rw [w45]
  have h := q45 k
  unfold f45
  rw [← h]
theorem m45 : Meets Go.Proofs.Try.prog 45 s45 := meets_of_run tiCOk env53_ok mo Go.Proofs.Try.func45 (body := bodyOf Go.Proofs.Try.f45) (by kernel_rfl) (N := 61) (by kernel_rfl) (hs := h45) (by
  intro k xs r h
  unfold s45 at h
  dsimp only at h
  split at h
  · exact ⟨Nat.le_of_ble_eq_true rfl, (v45 k _ _).trans h⟩
  · cases h)
theorem env54_ok : EnvOk Go.Proofs.Try.prog (envOf env54) := envOf_cons m45 Go.Proofs.Try.func45 (by kernel_rfl) (by kernel_rfl) env53_ok

-- impl.treeEnd
def h92 : Hints := [(1002, .lab [(0, .one (.frz 63 (Ty.pair (Ty.int IntKind.i64) (Ty.int IntKind.i64)))), (1, .one (.v)), (5, .one (.v))])]
noncomputable def F92_1002 (k : Nat) (rec1002 : List (Int × Int) → Int → Int → Option (Int)) (l : List (Int × Int)) (place : Int) (open_ : Int) : Option (Int) :=
  bif decide (0 < open_) then
    bif decide (place = (↑(List.length l) : Int)) then
      some (-1)
    else
      bif boundA place (List.length l) then
        bif decide ((List.getD l (Int.toNat place) (0, 0)).fst = 0) then
          rec1002 l (IntKind.wrap IntKind.i64 (place + 1)) (IntKind.wrap IntKind.i64 (open_ + 1))
        else
          rec1002 l (IntKind.wrap IntKind.i64 (place + 1)) (IntKind.wrap IntKind.i64 (open_ - 1))
      else
        none
  else
    some place
noncomputable def F92 (k : Nat) (rec1002 : List (Int × Int) → Int → Int → Option (Int)) (l : List (Int × Int)) (place : Int) : Option (Int) :=
  rec1002 l place (1)
noncomputable def l92 : Nat → (List (Int × Int) → Int → Int → Option (Int))
  | 0 => fun _ _ _ => none
  | k + 1 => F92_1002 k (l92 k)
noncomputable def f92 (k : Nat) (l : List (Int × Int)) (place : Int) : Option (Int) := F92 k (l92 k) l place
noncomputable def s92 : Spec := ⟨false, [(.int .i64, false)], true, .int .i64, fun k xs => match xs with | [.slc 63 (.pair (.int .i64) (.int .i64)) l, .int .i64 place] => f92 k l place | _ => none, false, none⟩
noncomputable def env55 : List (FuncId × Spec) := (92, s92) :: env54
noncomputable abbrev x92 := exec ti (envOf env54) 25 h92 (finT ti true Go.Proofs.Try.f92.results.toList [(.int .i64, false)] (.int .i64))
noncomputable def k92_1002 : List It := stackAt [.r, .l, .r, .b, .lb none] (bodyOf Go.Proofs.Try.f92) []
def t92_1002 (l : List (Int × Int)) (place : Int) (open_ : Int) : St := [(0, Cell.val (AVal.slc 63 (Ty.pair (Ty.int IntKind.i64) (Ty.int IntKind.i64)) l)), (2, Cell.val (AVal.int IntKind.i64 place)), (10, Cell.val (AVal.int IntKind.i64 open_))]
theorem e92_1002 (k : Nat) (l : List (Int × Int)) (place : Int) (open_ : Int) : x92 (k + 1) k92_1002 (t92_1002 l place open_) = F92_1002 k (fun (l : List (Int × Int)) (place : Int) (open_ : Int) => x92 k k92_1002 (t92_1002 l place open_)) l place open_ := by kernel_rfl
theorem q92 : ∀ k : Nat, (fun (l : List (Int × Int)) (place : Int) (open_ : Int) => x92 k k92_1002 (t92_1002 l place open_)) = l92 k
  | 0 => rfl
  | k + 1 => by
    have h := q92 k
    show _ = F92_1002 k (l92 k)
    rw [← h]
    exact (funext fun l => funext fun place => funext fun open_ => e92_1002 k l place open_)
theorem w92 (k : Nat) (l : List (Int × Int)) (place : Int) : runFn ti (envOf env54) 25 h92 (finT ti true Go.Proofs.Try.f92.results.toList [(.int .i64, false)] (.int .i64)) k (bodyOf Go.Proofs.Try.f92) (initS 0 [.slc 63 (.pair (.int .i64) (.int .i64)) l, .int .i64 place]) = F92 k (fun (l : List (Int × Int)) (place : Int) (open_ : Int) => x92 k k92_1002 (t92_1002 l place open_)) l place := by kernel_rfl
theorem v92 (k : Nat) (l : List (Int × Int)) (place : Int) : runFn ti (envOf env54) 25 h92 (finT ti true Go.Proofs.Try.f92.results.toList [(.int .i64, false)] (.int .i64)) k (bodyOf Go.Proofs.Try.f92) (initS 0 [.slc 63 (.pair (.int .i64) (.int .i64)) l, .int .i64 place]) = f92 k l place := by
  rw [w92]
  have h := q92 k
  unfold f92
  rw [← h]
theorem m92 : Meets Go.Proofs.Try.prog 92 s92 := meets_of_run tiOk env54_ok mo Go.Proofs.Try.func92 (body := bodyOf Go.Proofs.Try.f92) (by kernel_rfl) (N := 25) (by kernel_rfl) (hs := h92) (by
  intro k xs r h
  unfold s92 at h
  dsimp only at h
  split at h
  · exact ⟨Nat.le_of_ble_eq_true rfl, (v92 k _ _).trans h⟩
  · cases h)
theorem env55_ok : EnvOk Go.Proofs.Try.prog (envOf env55) := envOf_cons m92 Go.Proofs.Try.func92 (by kernel_rfl) (by kernel_rfl) env54_ok

-- impl.pathsOf
def h93 : Hints := [(1004, .lab [(3, .one (.own 9 Ty.str)), (4, .one (.own 9 Ty.str)), (9, .one (.frz 63 (Ty.pair (Ty.int IntKind.i64) (Ty.int IntKind.i64)))), (10, .one (.v)), (11, .one (.v))])]
noncomputable def F93_1004 (k : Nat) (rec1004 : List ByteArray → List ByteArray → List (Int × Int) → Int → Int → Option (List (ByteArray))) (open_s : List ByteArray) (outs : List ByteArray) (t9 : List (Int × Int)) (t10 : Int) (t11 : Int) : Option (List (ByteArray)) :=
  bif decide (t11 < t10) then
    bif boundA t11 (List.length t9) then
      bif boundA (IntKind.wrap IntKind.i64 ((↑(List.length open_s) : Int) - 1)) (List.length open_s) then
        bif Nat.blt (Int.toNat (IntKind.wrap IntKind.i64 ((↑(List.length open_s) : Int) - 1))) (List.length open_s) then
          bif boundE (IntKind.wrap IntKind.i64 ((↑(List.length open_s) : Int) - 1)) (List.length open_s) then
            bif decide ((List.length outs + List.length [List.getD open_s (Int.toNat (IntKind.wrap IntKind.i64 ((↑(List.length open_s) : Int) - 1))) ByteArray.empty]) * 16 ≤ 140737488355328) then
              bif decide ((List.getD t9 (Int.toNat t11) (0, 0)).fst = 0) then
                bif decide (ByteArray.size (List.getD open_s (Int.toNat (IntKind.wrap IntKind.i64 ((↑(List.length open_s) : Int) - 1))) ByteArray.empty) + ByteArray.size { data := #[117] } ≤ 9223372036854775807) then
                  bif decide (ByteArray.size (List.getD open_s (Int.toNat (IntKind.wrap IntKind.i64 ((↑(List.length open_s) : Int) - 1))) ByteArray.empty) + ByteArray.size { data := #[108] } ≤ 9223372036854775807) then
                    bif decide ((List.length (List.take (Int.toNat (IntKind.wrap IntKind.i64 ((↑(List.length open_s) : Int) - 1))) open_s) + List.length [List.getD open_s (Int.toNat (IntKind.wrap IntKind.i64 ((↑(List.length open_s) : Int) - 1))) ByteArray.empty ++ { data := #[117] }, List.getD open_s (Int.toNat (IntKind.wrap IntKind.i64 ((↑(List.length open_s) : Int) - 1))) ByteArray.empty ++ { data := #[108] }]) * 16 ≤ 140737488355328) then
                      rec1004 (List.take (Int.toNat (IntKind.wrap IntKind.i64 ((↑(List.length open_s) : Int) - 1))) open_s ++ [List.getD open_s (Int.toNat (IntKind.wrap IntKind.i64 ((↑(List.length open_s) : Int) - 1))) ByteArray.empty ++ { data := #[117] }, List.getD open_s (Int.toNat (IntKind.wrap IntKind.i64 ((↑(List.length open_s) : Int) - 1))) ByteArray.empty ++ { data := #[108] }]) (outs ++ [List.getD open_s (Int.toNat (IntKind.wrap IntKind.i64 ((↑(List.length open_s) : Int) - 1))) ByteArray.empty]) t9 t10 (IntKind.wrap IntKind.i64 (t11 + 1))
                    else
                      none
                  else
                    none
                else
                  none
              else
                rec1004 (List.take (Int.toNat (IntKind.wrap IntKind.i64 ((↑(List.length open_s) : Int) - 1))) open_s) (outs ++ [List.getD open_s (Int.toNat (IntKind.wrap IntKind.i64 ((↑(List.length open_s) : Int) - 1))) ByteArray.empty]) t9 t10 (IntKind.wrap IntKind.i64 (t11 + 1))
            else
              none
          else
            none
        else
          none
      else
        none
    else
      none
  else
    some outs
noncomputable def F93 (k : Nat) (rec1004 : List ByteArray → List ByteArray → List (Int × Int) → Int → Int → Option (List (ByteArray))) (l : List (Int × Int)) : Option (List (ByteArray)) :=
  rec1004 ([{ data := #[] }]) ([]) l ((↑(List.length l) : Int)) (0)
noncomputable def l93 : Nat → (List ByteArray → List ByteArray → List (Int × Int) → Int → Int → Option (List (ByteArray)))
  | 0 => fun _ _ _ _ _ => none
  | k + 1 => F93_1004 k (l93 k)
noncomputable def f93 (k : Nat) (l : List (Int × Int)) : Option (List (ByteArray)) := F93 k (l93 k) l
noncomputable def s93 : Spec := ⟨false, [(.slice 9 (.str), false)], true, .slice 9 (.str), fun k xs => match xs with | [.slc 63 (.pair (.int .i64) (.int .i64)) l] => f93 k l | _ => none, false, none⟩
noncomputable def env56 : List (FuncId × Spec) := (93, s93) :: env55
noncomputable abbrev x93 := exec tiC (envOf env55) 42 h93 (finT tiC true Go.Proofs.Try.f93.results.toList [(.slice 9 (.str), false)] (.slice 9 (.str)))
noncomputable def k93_1004 : List It := stackAt [.r, .r, .r, .l, .r, .b, .lb none] (bodyOf Go.Proofs.Try.f93) []
def t93_1004 (open_s : List ByteArray) (outs : List ByteArray) (t9 : List (Int × Int)) (t10 : Int) (t11 : Int) : St := [(6, Cell.val (AVal.ref 33 none)), (33, Cell.row true 9 Ty.str open_s), (8, Cell.val (AVal.ref 35 none)), (35, Cell.row true 9 Ty.str outs), (18, Cell.val (AVal.slc 63 (Ty.pair (Ty.int IntKind.i64) (Ty.int IntKind.i64)) t9)), (20, Cell.val (AVal.int IntKind.i64 t10)), (22, Cell.val (AVal.int IntKind.i64 t11))]
theorem e93_1004 (k : Nat) (open_s : List ByteArray) (outs : List ByteArray) (t9 : List (Int × Int)) (t10 : Int) (t11 : Int) : x93 (k + 1) k93_1004 (t93_1004 open_s outs t9 t10 t11) = F93_1004 k (fun (open_s : List ByteArray) (outs : List ByteArray) (t9 : List (Int × Int)) (t10 : Int) (t11 : Int) => x93 k k93_1004 (t93_1004 open_s outs t9 t10 t11)) open_s outs t9 t10 t11 := by kernel_rfl
theorem q93 : ∀ k : Nat, (fun (open_s : List ByteArray) (outs : List ByteArray) (t9 : List (Int × Int)) (t10 : Int) (t11 : Int) => x93 k k93_1004 (t93_1004 open_s outs t9 t10 t11)) = l93 k
  | 0 => rfl
  | k + 1 => by
    have h := q93 k
    show _ = F93_1004 k (l93 k)
    rw [← h]
    exact (funext fun open_s => funext fun outs => funext fun t9 => funext fun t10 => funext fun t11 => e93_1004 k open_s outs t9 t10 t11)
theorem w93 (k : Nat) (l : List (Int × Int)) : runFn tiC (envOf env55) 42 h93 (finT tiC true Go.Proofs.Try.f93.results.toList [(.slice 9 (.str), false)] (.slice 9 (.str))) k (bodyOf Go.Proofs.Try.f93) (initS 0 [.slc 63 (.pair (.int .i64) (.int .i64)) l]) = F93 k (fun (open_s : List ByteArray) (outs : List ByteArray) (t9 : List (Int × Int)) (t10 : Int) (t11 : Int) => x93 k k93_1004 (t93_1004 open_s outs t9 t10 t11)) l := by kernel_rfl
theorem v93 (k : Nat) (l : List (Int × Int)) : runFn tiC (envOf env55) 42 h93 (finT tiC true Go.Proofs.Try.f93.results.toList [(.slice 9 (.str), false)] (.slice 9 (.str))) k (bodyOf Go.Proofs.Try.f93) (initS 0 [.slc 63 (.pair (.int .i64) (.int .i64)) l]) = f93 k l := by
  rw [w93]
  have h := q93 k
  unfold f93
  rw [← h]
theorem m93 : Meets Go.Proofs.Try.prog 93 s93 := meets_of_run tiCOk env55_ok mo Go.Proofs.Try.func93 (body := bodyOf Go.Proofs.Try.f93) (by kernel_rfl) (N := 42) (by kernel_rfl) (hs := h93) (by
  intro k xs r h
  unfold s93 at h
  dsimp only at h
  split at h
  · exact ⟨Nat.le_of_ble_eq_true rfl, (v93 k _).trans h⟩
  · cases h)
theorem env56_ok : EnvOk Go.Proofs.Try.prog (envOf env56) := envOf_cons m93 Go.Proofs.Try.func93 (by kernel_rfl) (by kernel_rfl) env55_ok

-- impl.isNode
noncomputable def f94 (k : Nat) (n_Kind : Int) (n_Number : Int) (sides : Int) : Option (Bool) :=
  bif decide (n_Kind = 0) then
    (f91 k n_Number 0 (IntKind.wrap IntKind.i64 (sides - 1))).bind fun r0 =>
    some r0
  else
    bif decide (n_Kind = 1) then
      bif decide (n_Kind = 1) then
        (f91 k n_Number 0 99).bind fun r1 =>
        some r1
      else
        bif decide (n_Kind = 3) then
          some (decide (n_Number = 0))
        else
          some false
    else
      bif decide (n_Kind = 2) then
        (f91 k n_Number 0 99).bind fun r2 =>
        some r2
      else
        bif decide (n_Kind = 3) then
          some (decide (n_Number = 0))
        else
          some false
noncomputable def s94 : Spec := ⟨false, [(.bool, false)], true, .bool, fun k xs => match xs with | [.agg [.int .i64 n_Kind, .int .i64 n_Number], .int .i64 sides] => f94 k n_Kind n_Number sides | _ => none, false, none⟩
noncomputable def env57 : List (FuncId × Spec) := (94, s94) :: env56
theorem v94 (k : Nat) (n_Kind : Int) (n_Number : Int) (sides : Int) : runFn ti (envOf env56) 25 [] (finT ti true Go.Proofs.Try.f94.results.toList [(.bool, false)] (.bool)) k (bodyOf Go.Proofs.Try.f94) (initS 0 [.agg [.int .i64 n_Kind, .int .i64 n_Number], .int .i64 sides]) = f94 k n_Kind n_Number sides := by kernel_rfl
theorem m94 : Meets Go.Proofs.Try.prog 94 s94 := meets_of_run tiOk env56_ok mo Go.Proofs.Try.func94 (body := bodyOf Go.Proofs.Try.f94) (by kernel_rfl) (N := 25) (by kernel_rfl) (hs := []) (by
  intro k xs r h
  unfold s94 at h
  dsimp only at h
  split at h
  · exact ⟨Nat.le_of_ble_eq_true rfl, (v94 k _ _ _).trans h⟩
  · cases h)
theorem env57_ok : EnvOk Go.Proofs.Try.prog (envOf env57) := envOf_cons m94 Go.Proofs.Try.func94 (by kernel_rfl) (by kernel_rfl) env56_ok

-- impl.isTree
def h61 : Hints := [(1004, .lab [(0, .one (.frz 63 (Ty.pair (Ty.int IntKind.i64) (Ty.int IntKind.i64)))), (1, .one (.v)), (23, .one (.own 9 Ty.str)), (24, .one (.v)), (25, .one (.v))])]
noncomputable def F61_1004 (k : Nat) (rec1004 : List (Int × Int) → Int → List ByteArray → Int → Int → Option (Bool)) (l : List (Int × Int)) (sides : Int) (t23s : List ByteArray) (t24 : Int) (t25 : Int) : Option (Bool) :=
  bif decide (t25 < t24) then
    bif boundA t25 (List.length t23s) then
      bif Nat.blt (Int.toNat t25) (List.length t23s) then
        bif boundA t25 (List.length l) then
          (f94 k (List.getD l (Int.toNat t25) (0, 0)).fst (List.getD l (Int.toNat t25) (0, 0)).snd sides).bind fun r0 =>
          bif !r0 then
            some false
          else
            bif decide (20 < (↑(ByteArray.size (List.getD t23s (Int.toNat t25) ByteArray.empty)) : Int)) then
              some false
            else
              rec1004 l sides t23s t24 (IntKind.wrap IntKind.i64 (t25 + 1))
        else
          none
      else
        none
    else
      none
  else
    some true
noncomputable def F61 (k : Nat) (rec1004 : List (Int × Int) → Int → List ByteArray → Int → Int → Option (Bool)) (l : List (Int × Int)) (sides : Int) : Option (Bool) :=
  (f91 k sides 1 3).bind fun r0 =>
  bif !r0 then
    some false
  else
    bif decide (200 < (↑(List.length l) : Int)) then
      some false
    else
      (f92 k l 0).bind fun r1 =>
      bif !decide (r1 = (↑(List.length l) : Int)) then
        some false
      else
        (f93 k l).bind fun r2 =>
        rec1004 l sides r2 ((↑(List.length r2) : Int)) (0)
noncomputable def l61 : Nat → (List (Int × Int) → Int → List ByteArray → Int → Int → Option (Bool))
  | 0 => fun _ _ _ _ _ => none
  | k + 1 => F61_1004 k (l61 k)
noncomputable def f61 (k : Nat) (l : List (Int × Int)) (sides : Int) : Option (Bool) := F61 k (l61 k) l sides
noncomputable def s61 : Spec := ⟨false, [(.bool, false)], true, .bool, fun k xs => match xs with | [.slc 63 (.pair (.int .i64) (.int .i64)) l, .int .i64 sides] => f61 k l sides | _ => none, false, none⟩
noncomputable def env58 : List (FuncId × Spec) := (61, s61) :: env57
noncomputable abbrev x61 := exec ti (envOf env57) 43 h61 (finT ti true Go.Proofs.Try.f61.results.toList [(.bool, false)] (.bool))
noncomputable def k61_1004 : List It := stackAt [.r, .r, .l, .r, .b, .lb none] (bodyOf Go.Proofs.Try.f61) []
def t61_1004 (l : List (Int × Int)) (sides : Int) (t23s : List ByteArray) (t24 : Int) (t25 : Int) : St := [(0, Cell.val (AVal.slc 63 (Ty.pair (Ty.int IntKind.i64) (Ty.int IntKind.i64)) l)), (2, Cell.val (AVal.int IntKind.i64 sides)), (46, Cell.val (AVal.ref 33 none)), (33, Cell.row true 9 Ty.str t23s), (48, Cell.val (AVal.int IntKind.i64 t24)), (50, Cell.val (AVal.int IntKind.i64 t25))]
theorem e61_1004 (k : Nat) (l : List (Int × Int)) (sides : Int) (t23s : List ByteArray) (t24 : Int) (t25 : Int) : x61 (k + 1) k61_1004 (t61_1004 l sides t23s t24 t25) = F61_1004 k (fun (l : List (Int × Int)) (sides : Int) (t23s : List ByteArray) (t24 : Int) (t25 : Int) => x61 k k61_1004 (t61_1004 l sides t23s t24 t25)) l sides t23s t24 t25 := by kernel_rfl
theorem q61 : ∀ k : Nat, (fun (l : List (Int × Int)) (sides : Int) (t23s : List ByteArray) (t24 : Int) (t25 : Int) => x61 k k61_1004 (t61_1004 l sides t23s t24 t25)) = l61 k
  | 0 => rfl
  | k + 1 => by
    have h := q61 k
    show _ = F61_1004 k (l61 k)
    rw [← h]
    exact (funext fun l => funext fun sides => funext fun t23s => funext fun t24 => funext fun t25 => e61_1004 k l sides t23s t24 t25)
theorem w61 (k : Nat) (l : List (Int × Int)) (sides : Int) : runFn ti (envOf env57) 43 h61 (finT ti true Go.Proofs.Try.f61.results.toList [(.bool, false)] (.bool)) k (bodyOf Go.Proofs.Try.f61) (initS 0 [.slc 63 (.pair (.int .i64) (.int .i64)) l, .int .i64 sides]) = F61 k (fun (l : List (Int × Int)) (sides : Int) (t23s : List ByteArray) (t24 : Int) (t25 : Int) => x61 k k61_1004 (t61_1004 l sides t23s t24 t25)) l sides := by kernel_rfl
theorem v61 (k : Nat) (l : List (Int × Int)) (sides : Int) : runFn ti (envOf env57) 43 h61 (finT ti true Go.Proofs.Try.f61.results.toList [(.bool, false)] (.bool)) k (bodyOf Go.Proofs.Try.f61) (initS 0 [.slc 63 (.pair (.int .i64) (.int .i64)) l, .int .i64 sides]) = f61 k l sides := by
  rw [w61]
  have h := q61 k
  unfold f61
  rw [← h]
theorem m61 : Meets Go.Proofs.Try.prog 61 s61 := meets_of_run tiOk env57_ok mo Go.Proofs.Try.func61 (body := bodyOf Go.Proofs.Try.f61) (by kernel_rfl) (N := 43) (by kernel_rfl) (hs := h61) (by
  intro k xs r h
  unfold s61 at h
  dsimp only at h
  split at h
  · exact ⟨Nat.le_of_ble_eq_true rfl, (v61 k _ _).trans h⟩
  · cases h)
theorem env58_ok : EnvOk Go.Proofs.Try.prog (envOf env58) := envOf_cons m61 Go.Proofs.Try.func61 (by kernel_rfl) (by kernel_rfl) env57_ok

-- impl.treeFits
noncomputable def f44 (k : Nat) (b : Int × (List (Int)) × List (Int)) (l : List (Int × Int)) : Option (Bool) :=
  (f60 k b).bind fun r0 =>
  bif !r0 then
    some false
  else
    (f61 k l (↑(List.length b.snd.fst) : Int)).bind fun r1 =>
    bif !r1 then
      some false
    else
      (f45 k b l).bind fun r2 =>
      some (r2.snd)
noncomputable def s44 : Spec := ⟨false, [(.bool, false)], true, .bool, fun k xs => match xs with | [.fptr (.pair (.int .i64) (.pair (.slice 3 (.int .i64)) (.slice 3 (.int .i64)))) b, .slc 63 (.pair (.int .i64) (.int .i64)) l] => f44 k b l | _ => none, false, none⟩
noncomputable def env59 : List (FuncId × Spec) := (44, s44) :: env58
theorem v44 (k : Nat) (b : Int × (List (Int)) × List (Int)) (l : List (Int × Int)) : runFn ti (envOf env58) 27 [] (finT ti true Go.Proofs.Try.f44.results.toList [(.bool, false)] (.bool)) k (bodyOf Go.Proofs.Try.f44) (initS 0 [.fptr (.pair (.int .i64) (.pair (.slice 3 (.int .i64)) (.slice 3 (.int .i64)))) b, .slc 63 (.pair (.int .i64) (.int .i64)) l]) = f44 k b l := by kernel_rfl
theorem m44 : Meets Go.Proofs.Try.prog 44 s44 := meets_of_run tiOk env58_ok mo Go.Proofs.Try.func44 (body := bodyOf Go.Proofs.Try.f44) (by kernel_rfl) (N := 27) (by kernel_rfl) (hs := []) (by
  intro k xs r h
  unfold s44 at h
  dsimp only at h
  split at h
  · exact ⟨Nat.le_of_ble_eq_true rfl, (v44 k _ _).trans h⟩
  · cases h)
theorem env59_ok : EnvOk Go.Proofs.Try.prog (envOf env59) := envOf_cons m44 Go.Proofs.Try.func44 (by kernel_rfl) (by kernel_rfl) env58_ok

-- impl.size
noncomputable def f97 (k : Nat) (n : Int) : Option (Int) :=
  bif decide (n < 0) then
    some (IntKind.wrap IntKind.u64 (IntKind.wrap IntKind.i64 (0 - n)))
  else
    some (IntKind.wrap IntKind.u64 n)
noncomputable def s97 : Spec := ⟨false, [(.int .u64, false)], true, .int .u64, fun k xs => match xs with | [.int .i64 n] => f97 k n | _ => none, false, none⟩
noncomputable def env60 : List (FuncId × Spec) := (97, s97) :: env59
theorem v97 (k : Nat) (n : Int) : runFn ti (envOf env59) 10 [] (finT ti true Go.Proofs.Try.f97.results.toList [(.int .u64, false)] (.int .u64)) k (bodyOf Go.Proofs.Try.f97) (initS 0 [.int .i64 n]) = f97 k n := by kernel_rfl
theorem m97 : Meets Go.Proofs.Try.prog 97 s97 := meets_of_run tiOk env59_ok mo Go.Proofs.Try.func97 (body := bodyOf Go.Proofs.Try.f97) (by kernel_rfl) (N := 10) (by kernel_rfl) (hs := []) (by
  intro k xs r h
  unfold s97 at h
  dsimp only at h
  split at h
  · exact ⟨Nat.le_of_ble_eq_true rfl, (v97 k _).trans h⟩
  · cases h)
theorem env60_ok : EnvOk Go.Proofs.Try.prog (envOf env60) := envOf_cons m97 Go.Proofs.Try.func97 (by kernel_rfl) (by kernel_rfl) env59_ok

end Go.Proofs.YtkahcjnkmbbplaaE
