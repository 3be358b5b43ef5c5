/- Functions, by the engine; printed. -/
import Derived.Test.YtnndolcjljhhcaaG4
set_option maxRecDepth 100000
set_option maxHeartbeats 4000000
set_option linter.unusedVariables false
namespace Go.Proofs.YtnndolcjljhhcaaE
-- impl.systemOver
def f128 (k : Nat) (s : List (List (Int × Int × Int × Int))) (b : Int × (List (Int)) × List (Int)) : Option (Bool) :=
  (f160 k s).bind fun r0 =>
  bif r0 then
    (f103 k b).bind fun r1 =>
    bif r1 then
      some (decide ((↑(List.length s) : Int) = (↑(List.length b.snd.fst) : Int)))
    else
      some false
  else
    some false
def s128 : Spec := ⟨false, [(.bool, false)], true, .bool, fun k xs => match xs with | [.slc 133 (.slice 136 (.pair (.int .i64) (.pair (.int .i64) (.pair (.int .i64) (.int .i64))))) s, .fptr (.pair (.int .i64) (.pair (.slice 3 (.int .i64)) (.slice 3 (.int .i64)))) b] => f128 k s b | _ => none⟩
def env41 : List (FuncId × Spec) := (128, s128) :: env40
theorem v128 (k : Nat) (s : List (List (Int × Int × Int × Int))) (b : Int × (List (Int)) × List (Int)) : runFn ti (envOf env40) 21 [] (finT ti true Go.Proofs.Try.f128.results.toList [(.bool, false)] (.bool)) k (bodyOf Go.Proofs.Try.f128) (initS 0 [.slc 133 (.slice 136 (.pair (.int .i64) (.pair (.int .i64) (.pair (.int .i64) (.int .i64))))) s, .fptr (.pair (.int .i64) (.pair (.slice 3 (.int .i64)) (.slice 3 (.int .i64)))) b]) = f128 k s b := by kernel_rfl
theorem m128 : Meets Go.Proofs.Try.prog 128 s128 := meets_of_run tiOk env40_ok mo Go.Proofs.Try.func128 (body := bodyOf Go.Proofs.Try.f128) (by kernel_rfl) (N := 21) (by kernel_rfl) (hs := []) (by
  intro k xs r h
  unfold s128 at h
  dsimp only at h
  split at h
  · exact ⟨Nat.le_of_ble_eq_true rfl, (v128 k _ _).trans h⟩
  · cases h)
theorem env41_ok : EnvOk Go.Proofs.Try.prog (envOf env41) := envOf_cons m128 Go.Proofs.Try.func128 (by kernel_rfl) (by kernel_rfl) env40_ok

-- impl.isEntry
def h93 : Hints := [(1002, .lab [(0, .one (.v)), (8, .one (.v)), (9, .one (.v))])]
def F93_1002 (k : Nat) (rec1002 : ByteArray × List (List (Int × Int × Int × Int)) × (Int × List Int × List Int) × Int × Int × Int → Int → Int → Option (Bool)) (L : ByteArray × List (List (Int × Int × Int × Int)) × (Int × List Int × List Int) × Int × Int × Int) (r : Int) (r_9 : Int) : Option (Bool) :=
  bif decide (r_9 < r) then
    bif boundA r_9 (ByteArray.size L.fst) then
      bif decide ((↑(UInt8.toNat (Array.getD L.fst.data (Int.toNat r_9) 0)) : Int) < 97) then
        some false
      else
        bif boundA r_9 (ByteArray.size L.fst) then
          bif decide (122 < (↑(UInt8.toNat (Array.getD L.fst.data (Int.toNat r_9) 0)) : Int)) then
            some false
          else
            rec1002 L r (IntKind.wrap IntKind.i64 (r_9 + 1))
        else
          none
    else
      none
  else
    (f74 k (↑(ByteArray.size L.fst) : Int) 1 8).bind fun r0 =>
    bif r0 then
      (f128 k L.snd.fst L.snd.snd.fst).bind fun r1 =>
      bif r1 then
        (f74 k L.snd.snd.snd.fst 0 L.snd.snd.snd.snd.fst).bind fun r2 =>
        bif r2 then
          bif decide (L.snd.snd.snd.snd.fst ≤ 64) then
            (f74 k L.snd.snd.snd.snd.snd 1 999).bind fun r3 =>
            some r3
          else
            some false
        else
          some false
      else
        some false
    else
      some false
def F93 (k : Nat) (rec1002 : ByteArray × List (List (Int × Int × Int × Int)) × (Int × List Int × List Int) × Int × Int × Int → Int → Int → Option (Bool)) (L : ByteArray × (List (List (Int × Int × Int × Int))) × (Int × (List (Int)) × List (Int)) × Int × Int × Int) : Option (Bool) :=
  rec1002 L ((↑(ByteArray.size L.fst) : Int)) (0)
def l93 : Nat → (ByteArray × List (List (Int × Int × Int × Int)) × (Int × List Int × List Int) × Int × Int × Int → Int → Int → Option (Bool))
  | 0 => fun _ _ _ => none
  | k + 1 => F93_1002 k (l93 k)
def f93 (k : Nat) (L : ByteArray × (List (List (Int × Int × Int × Int))) × (Int × (List (Int)) × List (Int)) × Int × Int × Int) : Option (Bool) := F93 k (l93 k) L
def s93 : Spec := ⟨false, [(.bool, false)], true, .bool, fun k xs => match xs with | [.fptr (.pair (.str) (.pair (.slice 133 (.slice 136 (.pair (.int .i64) (.pair (.int .i64) (.pair (.int .i64) (.int .i64)))))) (.pair (.pair (.int .i64) (.pair (.slice 3 (.int .i64)) (.slice 3 (.int .i64)))) (.pair (.int .i64) (.pair (.int .i64) (.int .i64)))))) L] => f93 k L | _ => none⟩
def env42 : List (FuncId × Spec) := (93, s93) :: env41
noncomputable abbrev x93 := exec ti (envOf env41) 70 h93 (finT ti true Go.Proofs.Try.f93.results.toList [(.bool, false)] (.bool))
noncomputable def k93_1002 : List It := stackAt [.r, .l, .r, .b, .lb none] (bodyOf Go.Proofs.Try.f93) []
def t93_1002 (L : ByteArray × List (List (Int × Int × Int × Int)) × (Int × List Int × List Int) × Int × Int × Int) (r : Int) (r_9 : Int) : St := [(0, Cell.val (AVal.fptr (Ty.pair Ty.str (Ty.pair (Ty.slice 133 (Ty.slice 136 (Ty.pair (Ty.int IntKind.i64) (Ty.pair (Ty.int IntKind.i64) (Ty.pair (Ty.int IntKind.i64) (Ty.int IntKind.i64)))))) (Ty.pair (Ty.pair (Ty.int IntKind.i64) (Ty.pair (Ty.slice 3 (Ty.int IntKind.i64)) (Ty.slice 3 (Ty.int IntKind.i64)))) (Ty.pair (Ty.int IntKind.i64) (Ty.pair (Ty.int IntKind.i64) (Ty.int IntKind.i64)))))) L)), (16, Cell.val (AVal.int IntKind.i64 r)), (18, Cell.val (AVal.int IntKind.i64 r_9))]
theorem e93_1002 (k : Nat) (L : ByteArray × List (List (Int × Int × Int × Int)) × (Int × List Int × List Int) × Int × Int × Int) (r : Int) (r_9 : Int) : x93 (k + 1) k93_1002 (t93_1002 L r r_9) = F93_1002 k (fun (L : ByteArray × List (List (Int × Int × Int × Int)) × (Int × List Int × List Int) × Int × Int × Int) (r : Int) (r_9 : Int) => x93 k k93_1002 (t93_1002 L r r_9)) L r r_9 := by kernel_rfl
theorem q93 : ∀ k : Nat, (fun (L : ByteArray × List (List (Int × Int × Int × Int)) × (Int × List Int × List Int) × Int × Int × Int) (r : Int) (r_9 : Int) => x93 k k93_1002 (t93_1002 L r r_9)) = l93 k
  | 0 => rfl
  | k + 1 => by
    have h := q93 k
    show _ = F93_1002 k (l93 k)
    rw [← h]
    exact (funext fun L => funext fun r => funext fun r_9 => e93_1002 k L r r_9)
theorem w93 (k : Nat) (L : ByteArray × (List (List (Int × Int × Int × Int))) × (Int × (List (Int)) × List (Int)) × Int × Int × Int) : runFn ti (envOf env41) 70 h93 (finT ti true Go.Proofs.Try.f93.results.toList [(.bool, false)] (.bool)) k (bodyOf Go.Proofs.Try.f93) (initS 0 [.fptr (.pair (.str) (.pair (.slice 133 (.slice 136 (.pair (.int .i64) (.pair (.int .i64) (.pair (.int .i64) (.int .i64)))))) (.pair (.pair (.int .i64) (.pair (.slice 3 (.int .i64)) (.slice 3 (.int .i64)))) (.pair (.int .i64) (.pair (.int .i64) (.int .i64)))))) L]) = F93 k (fun (L : ByteArray × List (List (Int × Int × Int × Int)) × (Int × List Int × List Int) × Int × Int × Int) (r : Int) (r_9 : Int) => x93 k k93_1002 (t93_1002 L r r_9)) L := by kernel_rfl
theorem v93 (k : Nat) (L : ByteArray × (List (List (Int × Int × Int × Int))) × (Int × (List (Int)) × List (Int)) × Int × Int × Int) : runFn ti (envOf env41) 70 h93 (finT ti true Go.Proofs.Try.f93.results.toList [(.bool, false)] (.bool)) k (bodyOf Go.Proofs.Try.f93) (initS 0 [.fptr (.pair (.str) (.pair (.slice 133 (.slice 136 (.pair (.int .i64) (.pair (.int .i64) (.pair (.int .i64) (.int .i64)))))) (.pair (.pair (.int .i64) (.pair (.slice 3 (.int .i64)) (.slice 3 (.int .i64)))) (.pair (.int .i64) (.pair (.int .i64) (.int .i64)))))) L]) = f93 k L := by
  rw [w93]
  have h := q93 k
  unfold f93
  rw [← h]
theorem m93 : Meets Go.Proofs.Try.prog 93 s93 := meets_of_run tiOk env41_ok mo Go.Proofs.Try.func93 (body := bodyOf Go.Proofs.Try.f93) (by kernel_rfl) (N := 70) (by kernel_rfl) (hs := h93) (by
  intro k xs r h
  unfold s93 at h
  dsimp only at h
  split at h
  · exact ⟨Nat.le_of_ble_eq_true rfl, (v93 k _).trans h⟩
  · cases h)
theorem env42_ok : EnvOk Go.Proofs.Try.prog (envOf env42) := envOf_cons m93 Go.Proofs.Try.func93 (by kernel_rfl) (by kernel_rfl) env41_ok

-- impl.IsEntry
def f48 (k : Nat) (e_Name : ByteArray) (e_System : List (List (Int × Int × Int × Int))) (e_Box_K : Int) (e_Box_Low : List (Int)) (e_Box_High : List (Int)) (e_Least : Int) (e_Most : Int) (e_Version : Int) : Option (Bool) :=
  (f93 k (e_Name, e_System, (e_Box_K, e_Box_Low, e_Box_High), e_Least, e_Most, e_Version)).bind fun r0 =>
  some r0
def s48 : Spec := ⟨false, [(.bool, false)], true, .bool, fun k xs => match xs with | [.agg [.str e_Name, .slc 133 (.slice 136 (.pair (.int .i64) (.pair (.int .i64) (.pair (.int .i64) (.int .i64))))) e_System, .int .i64 e_Box_K, .slc 3 (.int .i64) e_Box_Low, .slc 3 (.int .i64) e_Box_High, .int .i64 e_Least, .int .i64 e_Most, .int .i64 e_Version]] => f48 k e_Name e_System e_Box_K e_Box_Low e_Box_High e_Least e_Most e_Version | _ => none⟩
def env43 : List (FuncId × Spec) := (48, s48) :: env42
theorem v48 (k : Nat) (e_Name : ByteArray) (e_System : List (List (Int × Int × Int × Int))) (e_Box_K : Int) (e_Box_Low : List (Int)) (e_Box_High : List (Int)) (e_Least : Int) (e_Most : Int) (e_Version : Int) : runFn ti (envOf env42) 4 [] (finT ti true Go.Proofs.Try.f48.results.toList [(.bool, false)] (.bool)) k (bodyOf Go.Proofs.Try.f48) (initS 0 [.agg [.str e_Name, .slc 133 (.slice 136 (.pair (.int .i64) (.pair (.int .i64) (.pair (.int .i64) (.int .i64))))) e_System, .int .i64 e_Box_K, .slc 3 (.int .i64) e_Box_Low, .slc 3 (.int .i64) e_Box_High, .int .i64 e_Least, .int .i64 e_Most, .int .i64 e_Version]]) = f48 k e_Name e_System e_Box_K e_Box_Low e_Box_High e_Least e_Most e_Version := by kernel_rfl
theorem m48 : Meets Go.Proofs.Try.prog 48 s48 := meets_of_run tiOk env42_ok mo Go.Proofs.Try.func48 (body := bodyOf Go.Proofs.Try.f48) (by kernel_rfl) (N := 4) (by kernel_rfl) (hs := []) (by
  intro k xs r h
  unfold s48 at h
  dsimp only at h
  split at h
  · exact ⟨Nat.le_of_ble_eq_true rfl, (v48 k _ _ _ _ _ _ _ _).trans h⟩
  · cases h)
theorem env43_ok : EnvOk Go.Proofs.Try.prog (envOf env43) := envOf_cons m48 Go.Proofs.Try.func48 (by kernel_rfl) (by kernel_rfl) env42_ok

-- laws.eqIntS
def h17 : Hints := [(1004, .lab [(0, .one (.frz 3 (Ty.int IntKind.i64))), (1, .one (.frz 3 (Ty.int IntKind.i64))), (5, .one (.v))])]
def F17_1004 (k : Nat) (rec1004 : List Int → List Int → Int → Option (Bool)) (a : List Int) (b : List Int) (i : Int) : Option (Bool) :=
  bif decide (i < (↑(List.length a) : Int)) then
    bif boundA i (List.length a) then
      bif boundA i (List.length b) then
        bif !decide (List.getD a (Int.toNat i) 0 = List.getD b (Int.toNat i) 0) then
          some false
        else
          rec1004 a b (IntKind.wrap IntKind.i64 (i + 1))
      else
        none
    else
      none
  else
    some true
def F17 (k : Nat) (rec1004 : List Int → List Int → Int → Option (Bool)) (a : List (Int)) (b : List (Int)) : Option (Bool) :=
  bif !decide ((↑(List.length a) : Int) = (↑(List.length b) : Int)) then
    some false
  else
    rec1004 a b (0)
def l17 : Nat → (List Int → List Int → Int → Option (Bool))
  | 0 => fun _ _ _ => none
  | k + 1 => F17_1004 k (l17 k)
def f17 (k : Nat) (a : List (Int)) (b : List (Int)) : Option (Bool) := F17 k (l17 k) a b
def s17 : Spec := ⟨false, [(.bool, false)], true, .bool, fun k xs => match xs with | [.slc 3 (.int .i64) a, .slc 3 (.int .i64) b] => f17 k a b | _ => none⟩
def env44 : List (FuncId × Spec) := (17, s17) :: env43
noncomputable abbrev x17 := exec ti (envOf env43) 26 h17 (finT ti true Go.Proofs.Try.f17.results.toList [(.bool, false)] (.bool))
noncomputable def k17_1004 : List It := stackAt [.r, .r, .l, .r, .b, .lb none] (bodyOf Go.Proofs.Try.f17) []
def t17_1004 (a : List Int) (b : List Int) (i : Int) : St := [(0, Cell.val (AVal.slc 3 (Ty.int IntKind.i64) a)), (2, Cell.val (AVal.slc 3 (Ty.int IntKind.i64) b)), (10, Cell.val (AVal.int IntKind.i64 i))]
theorem e17_1004 (k : Nat) (a : List Int) (b : List Int) (i : Int) : x17 (k + 1) k17_1004 (t17_1004 a b i) = F17_1004 k (fun (a : List Int) (b : List Int) (i : Int) => x17 k k17_1004 (t17_1004 a b i)) a b i := by kernel_rfl
theorem q17 : ∀ k : Nat, (fun (a : List Int) (b : List Int) (i : Int) => x17 k k17_1004 (t17_1004 a b i)) = l17 k
  | 0 => rfl
  | k + 1 => by
    have h := q17 k
    show _ = F17_1004 k (l17 k)
    rw [← h]
    exact (funext fun a => funext fun b => funext fun i => e17_1004 k a b i)
theorem w17 (k : Nat) (a : List (Int)) (b : List (Int)) : runFn ti (envOf env43) 26 h17 (finT ti true Go.Proofs.Try.f17.results.toList [(.bool, false)] (.bool)) k (bodyOf Go.Proofs.Try.f17) (initS 0 [.slc 3 (.int .i64) a, .slc 3 (.int .i64) b]) = F17 k (fun (a : List Int) (b : List Int) (i : Int) => x17 k k17_1004 (t17_1004 a b i)) a b := by kernel_rfl
theorem v17 (k : Nat) (a : List (Int)) (b : List (Int)) : runFn ti (envOf env43) 26 h17 (finT ti true Go.Proofs.Try.f17.results.toList [(.bool, false)] (.bool)) k (bodyOf Go.Proofs.Try.f17) (initS 0 [.slc 3 (.int .i64) a, .slc 3 (.int .i64) b]) = f17 k a b := by
  rw [w17]
  have h := q17 k
  unfold f17
  rw [← h]
theorem m17 : Meets Go.Proofs.Try.prog 17 s17 := meets_of_run tiOk env43_ok mo Go.Proofs.Try.func17 (body := bodyOf Go.Proofs.Try.f17) (by kernel_rfl) (N := 26) (by kernel_rfl) (hs := h17) (by
  intro k xs r h
  unfold s17 at h
  dsimp only at h
  split at h
  · exact ⟨Nat.le_of_ble_eq_true rfl, (v17 k _ _).trans h⟩
  · cases h)
theorem env44_ok : EnvOk Go.Proofs.Try.prog (envOf env44) := envOf_cons m17 Go.Proofs.Try.func17 (by kernel_rfl) (by kernel_rfl) env43_ok

-- laws.intactIntS
def f18 (k : Nat) (x : List (Int)) (x_n : Nat) (y : List (Int)) (y_n : Nat) : Option (Bool) :=
  (f65 k (↑y_n : Int)).bind fun r0 =>
  bif decide ((↑x_n : Int) = (↑y_n : Int)) then
    bif boundE (IntKind.wrap IntKind.i64 ((↑y_n : Int) + r0)) (List.length x) then
      bif decide (0 ≤ 0) && decide (0 ≤ IntKind.wrap IntKind.i64 ((↑y_n : Int) + r0)) then
        bif boundE (IntKind.wrap IntKind.i64 ((↑y_n : Int) + r0)) (List.length y) then
          bif decide (0 ≤ 0) && decide (0 ≤ IntKind.wrap IntKind.i64 ((↑y_n : Int) + r0)) then
            (f17 k (List.drop (Int.toNat 0) (List.take (Int.toNat (IntKind.wrap IntKind.i64 ((↑y_n : Int) + r0))) x)) (List.drop (Int.toNat 0) (List.take (Int.toNat (IntKind.wrap IntKind.i64 ((↑y_n : Int) + r0))) y))).bind fun r1 =>
            some r1
          else
            none
        else
          none
      else
        none
    else
      none
  else
    some false
def s18 : Spec := ⟨true, [(.bool, false)], true, .bool, fun k xs => match xs with | [.vslc 3 (.int .i64) x x_n, .vslc 3 (.int .i64) y y_n] => f18 k x x_n y y_n | _ => none⟩
def env45 : List (FuncId × Spec) := (18, s18) :: env44
theorem v18 (k : Nat) (x : List (Int)) (x_n : Nat) (y : List (Int)) (y_n : Nat) : runFn tiV (envOf env44) 26 [] (finT tiV true Go.Proofs.Try.f18.results.toList [(.bool, false)] (.bool)) k (bodyOf Go.Proofs.Try.f18) (initS 0 [.vslc 3 (.int .i64) x x_n, .vslc 3 (.int .i64) y y_n]) = f18 k x x_n y y_n := by kernel_rfl
theorem m18 : Meets Go.Proofs.Try.prog 18 s18 := meets_of_run tiVOk env44_ok mo Go.Proofs.Try.func18 (body := bodyOf Go.Proofs.Try.f18) (by kernel_rfl) (N := 26) (by kernel_rfl) (hs := []) (by
  intro k xs r h
  unfold s18 at h
  dsimp only at h
  split at h
  · exact ⟨Nat.le_of_ble_eq_true rfl, (v18 k _ _ _ _).trans h⟩
  · cases h)
theorem env45_ok : EnvOk Go.Proofs.Try.prog (envOf env45) := envOf_cons m18 Go.Proofs.Try.func18 (by kernel_rfl) (by kernel_rfl) env44_ok

-- laws.intactBox
def f58 (k : Nat) (x_K : Int) (x_Low : List (Int)) (x_Low_n : Nat) (x_High : List (Int)) (x_High_n : Nat) (y_K : Int) (y_Low : List (Int)) (y_Low_n : Nat) (y_High : List (Int)) (y_High_n : Nat) : Option (Bool) :=
  bif !decide (x_K = y_K) then
    some false
  else
    (f18 k x_Low x_Low_n y_Low y_Low_n).bind fun r0 =>
    bif !r0 then
      some false
    else
      (f18 k x_High x_High_n y_High y_High_n).bind fun r1 =>
      bif !r1 then
        some false
      else
        some true
def s58 : Spec := ⟨true, [(.bool, false)], true, .bool, fun k xs => match xs with | [.agg [.int .i64 x_K, .vslc 3 (.int .i64) x_Low x_Low_n, .vslc 3 (.int .i64) x_High x_High_n], .agg [.int .i64 y_K, .vslc 3 (.int .i64) y_Low y_Low_n, .vslc 3 (.int .i64) y_High y_High_n]] => f58 k x_K x_Low x_Low_n x_High x_High_n y_K y_Low y_Low_n y_High y_High_n | _ => none⟩
def env46 : List (FuncId × Spec) := (58, s58) :: env45
theorem v58 (k : Nat) (x_K : Int) (x_Low : List (Int)) (x_Low_n : Nat) (x_High : List (Int)) (x_High_n : Nat) (y_K : Int) (y_Low : List (Int)) (y_Low_n : Nat) (y_High : List (Int)) (y_High_n : Nat) : runFn tiV (envOf env45) 22 [] (finT tiV true Go.Proofs.Try.f58.results.toList [(.bool, false)] (.bool)) k (bodyOf Go.Proofs.Try.f58) (initS 0 [.agg [.int .i64 x_K, .vslc 3 (.int .i64) x_Low x_Low_n, .vslc 3 (.int .i64) x_High x_High_n], .agg [.int .i64 y_K, .vslc 3 (.int .i64) y_Low y_Low_n, .vslc 3 (.int .i64) y_High y_High_n]]) = f58 k x_K x_Low x_Low_n x_High x_High_n y_K y_Low y_Low_n y_High y_High_n := by kernel_rfl
theorem m58 : Meets Go.Proofs.Try.prog 58 s58 := meets_of_run tiVOk env45_ok mo Go.Proofs.Try.func58 (body := bodyOf Go.Proofs.Try.f58) (by kernel_rfl) (N := 22) (by kernel_rfl) (hs := []) (by
  intro k xs r h
  unfold s58 at h
  dsimp only at h
  split at h
  · exact ⟨Nat.le_of_ble_eq_true rfl, (v58 k _ _ _ _ _ _ _ _ _ _).trans h⟩
  · cases h)
theorem env46_ok : EnvOk Go.Proofs.Try.prog (envOf env46) := envOf_cons m58 Go.Proofs.Try.func58 (by kernel_rfl) (by kernel_rfl) env45_ok

-- laws.eqTerm
def f188 (k : Nat) (a_C : Int) (a_X : Int) (a_Y : Int) (a_Z : Int) (b_C : Int) (b_X : Int) (b_Y : Int) (b_Z : Int) : Option (Bool) :=
  bif !decide (a_C = b_C) then
    some false
  else
    bif !decide (a_X = b_X) then
      some false
    else
      bif !decide (a_Y = b_Y) then
        some false
      else
        bif !decide (a_Z = b_Z) then
          some false
        else
          some true
def s188 : Spec := ⟨false, [(.bool, false)], true, .bool, fun k xs => match xs with | [.agg [.int .i64 a_C, .int .i64 a_X, .int .i64 a_Y, .int .i64 a_Z], .agg [.int .i64 b_C, .int .i64 b_X, .int .i64 b_Y, .int .i64 b_Z]] => f188 k a_C a_X a_Y a_Z b_C b_X b_Y b_Z | _ => none⟩
def env47 : List (FuncId × Spec) := (188, s188) :: env46
theorem v188 (k : Nat) (a_C : Int) (a_X : Int) (a_Y : Int) (a_Z : Int) (b_C : Int) (b_X : Int) (b_Y : Int) (b_Z : Int) : runFn ti (envOf env46) 25 [] (finT ti true Go.Proofs.Try.f188.results.toList [(.bool, false)] (.bool)) k (bodyOf Go.Proofs.Try.f188) (initS 0 [.agg [.int .i64 a_C, .int .i64 a_X, .int .i64 a_Y, .int .i64 a_Z], .agg [.int .i64 b_C, .int .i64 b_X, .int .i64 b_Y, .int .i64 b_Z]]) = f188 k a_C a_X a_Y a_Z b_C b_X b_Y b_Z := by kernel_rfl
theorem m188 : Meets Go.Proofs.Try.prog 188 s188 := meets_of_run tiOk env46_ok mo Go.Proofs.Try.func188 (body := bodyOf Go.Proofs.Try.f188) (by kernel_rfl) (N := 25) (by kernel_rfl) (hs := []) (by
  intro k xs r h
  unfold s188 at h
  dsimp only at h
  split at h
  · exact ⟨Nat.le_of_ble_eq_true rfl, (v188 k _ _ _ _ _ _ _ _).trans h⟩
  · cases h)
theorem env47_ok : EnvOk Go.Proofs.Try.prog (envOf env47) := envOf_cons m188 Go.Proofs.Try.func188 (by kernel_rfl) (by kernel_rfl) env46_ok

-- laws.eqTermS
def h161 : Hints := [(1004, .lab [(0, .one (.frz 136 (Ty.pair (Ty.int IntKind.i64) (Ty.pair (Ty.int IntKind.i64) (Ty.pair (Ty.int IntKind.i64) (Ty.int IntKind.i64)))))), (1, .one (.frz 136 (Ty.pair (Ty.int IntKind.i64) (Ty.pair (Ty.int IntKind.i64) (Ty.pair (Ty.int IntKind.i64) (Ty.int IntKind.i64)))))), (5, .one (.v))])]
def F161_1004 (k : Nat) (rec1004 : List (Int × Int × Int × Int) → List (Int × Int × Int × Int) → Int → Option (Bool)) (a : List (Int × Int × Int × Int)) (b : List (Int × Int × Int × Int)) (i : Int) : Option (Bool) :=
  bif decide (i < (↑(List.length a) : Int)) then
    bif boundA i (List.length a) then
      bif boundA i (List.length b) then
        (f188 k (List.getD a (Int.toNat i) (0, 0, 0, 0)).fst (List.getD a (Int.toNat i) (0, 0, 0, 0)).snd.fst (List.getD a (Int.toNat i) (0, 0, 0, 0)).snd.snd.fst (List.getD a (Int.toNat i) (0, 0, 0, 0)).snd.snd.snd (List.getD b (Int.toNat i) (0, 0, 0, 0)).fst (List.getD b (Int.toNat i) (0, 0, 0, 0)).snd.fst (List.getD b (Int.toNat i) (0, 0, 0, 0)).snd.snd.fst (List.getD b (Int.toNat i) (0, 0, 0, 0)).snd.snd.snd).bind fun r0 =>
        bif !r0 then
          some false
        else
          rec1004 a b (IntKind.wrap IntKind.i64 (i + 1))
      else
        none
    else
      none
  else
    some true
def F161 (k : Nat) (rec1004 : List (Int × Int × Int × Int) → List (Int × Int × Int × Int) → Int → Option (Bool)) (a : List (Int × Int × Int × Int)) (b : List (Int × Int × Int × Int)) : Option (Bool) :=
  bif !decide ((↑(List.length a) : Int) = (↑(List.length b) : Int)) then
    some false
  else
    rec1004 a b (0)
def l161 : Nat → (List (Int × Int × Int × Int) → List (Int × Int × Int × Int) → Int → Option (Bool))
  | 0 => fun _ _ _ => none
  | k + 1 => F161_1004 k (l161 k)
def f161 (k : Nat) (a : List (Int × Int × Int × Int)) (b : List (Int × Int × Int × Int)) : Option (Bool) := F161 k (l161 k) a b
def s161 : Spec := ⟨false, [(.bool, false)], true, .bool, fun k xs => match xs with | [.slc 136 (.pair (.int .i64) (.pair (.int .i64) (.pair (.int .i64) (.int .i64)))) a, .slc 136 (.pair (.int .i64) (.pair (.int .i64) (.pair (.int .i64) (.int .i64)))) b] => f161 k a b | _ => none⟩
def env48 : List (FuncId × Spec) := (161, s161) :: env47
noncomputable abbrev x161 := exec ti (envOf env47) 27 h161 (finT ti true Go.Proofs.Try.f161.results.toList [(.bool, false)] (.bool))
noncomputable def k161_1004 : List It := stackAt [.r, .r, .l, .r, .b, .lb none] (bodyOf Go.Proofs.Try.f161) []
def t161_1004 (a : List (Int × Int × Int × Int)) (b : List (Int × Int × Int × Int)) (i : Int) : St := [(0, Cell.val (AVal.slc 136 (Ty.pair (Ty.int IntKind.i64) (Ty.pair (Ty.int IntKind.i64) (Ty.pair (Ty.int IntKind.i64) (Ty.int IntKind.i64)))) a)), (2, Cell.val (AVal.slc 136 (Ty.pair (Ty.int IntKind.i64) (Ty.pair (Ty.int IntKind.i64) (Ty.pair (Ty.int IntKind.i64) (Ty.int IntKind.i64)))) b)), (10, Cell.val (AVal.int IntKind.i64 i))]
theorem e161_1004 (k : Nat) (a : List (Int × Int × Int × Int)) (b : List (Int × Int × Int × Int)) (i : Int) : x161 (k + 1) k161_1004 (t161_1004 a b i) = F161_1004 k (fun (a : List (Int × Int × Int × Int)) (b : List (Int × Int × Int × Int)) (i : Int) => x161 k k161_1004 (t161_1004 a b i)) a b i := by kernel_rfl
theorem q161 : ∀ k : Nat, (fun (a : List (Int × Int × Int × Int)) (b : List (Int × Int × Int × Int)) (i : Int) => x161 k k161_1004 (t161_1004 a b i)) = l161 k
  | 0 => rfl
  | k + 1 => by
    have h := q161 k
    show _ = F161_1004 k (l161 k)
    rw [← h]
    exact (funext fun a => funext fun b => funext fun i => e161_1004 k a b i)
theorem w161 (k : Nat) (a : List (Int × Int × Int × Int)) (b : List (Int × Int × Int × Int)) : runFn ti (envOf env47) 27 h161 (finT ti true Go.Proofs.Try.f161.results.toList [(.bool, false)] (.bool)) k (bodyOf Go.Proofs.Try.f161) (initS 0 [.slc 136 (.pair (.int .i64) (.pair (.int .i64) (.pair (.int .i64) (.int .i64)))) a, .slc 136 (.pair (.int .i64) (.pair (.int .i64) (.pair (.int .i64) (.int .i64)))) b]) = F161 k (fun (a : List (Int × Int × Int × Int)) (b : List (Int × Int × Int × Int)) (i : Int) => x161 k k161_1004 (t161_1004 a b i)) a b := by kernel_rfl
theorem v161 (k : Nat) (a : List (Int × Int × Int × Int)) (b : List (Int × Int × Int × Int)) : runFn ti (envOf env47) 27 h161 (finT ti true Go.Proofs.Try.f161.results.toList [(.bool, false)] (.bool)) k (bodyOf Go.Proofs.Try.f161) (initS 0 [.slc 136 (.pair (.int .i64) (.pair (.int .i64) (.pair (.int .i64) (.int .i64)))) a, .slc 136 (.pair (.int .i64) (.pair (.int .i64) (.pair (.int .i64) (.int .i64)))) b]) = f161 k a b := by
  rw [w161]
  have h := q161 k
  unfold f161
  rw [← h]
theorem m161 : Meets Go.Proofs.Try.prog 161 s161 := meets_of_run tiOk env47_ok mo Go.Proofs.Try.func161 (body := bodyOf Go.Proofs.Try.f161) (by kernel_rfl) (N := 27) (by kernel_rfl) (hs := h161) (by
  intro k xs r h
  unfold s161 at h
  dsimp only at h
  split at h
  · exact ⟨Nat.le_of_ble_eq_true rfl, (v161 k _ _).trans h⟩
  · cases h)
theorem env48_ok : EnvOk Go.Proofs.Try.prog (envOf env48) := envOf_cons m161 Go.Proofs.Try.func161 (by kernel_rfl) (by kernel_rfl) env47_ok

-- laws.intactTermS
def f129 (k : Nat) (x : List (Int × Int × Int × Int)) (x_n : Nat) (y : List (Int × Int × Int × Int)) (y_n : Nat) : Option (Bool) :=
  (f65 k (↑y_n : Int)).bind fun r0 =>
  bif decide ((↑x_n : Int) = (↑y_n : Int)) then
    bif boundE (IntKind.wrap IntKind.i64 ((↑y_n : Int) + r0)) (List.length x) then
      bif decide (0 ≤ 0) && decide (0 ≤ IntKind.wrap IntKind.i64 ((↑y_n : Int) + r0)) then
        bif boundE (IntKind.wrap IntKind.i64 ((↑y_n : Int) + r0)) (List.length y) then
          bif decide (0 ≤ 0) && decide (0 ≤ IntKind.wrap IntKind.i64 ((↑y_n : Int) + r0)) then
            (f161 k (List.drop (Int.toNat 0) (List.take (Int.toNat (IntKind.wrap IntKind.i64 ((↑y_n : Int) + r0))) x)) (List.drop (Int.toNat 0) (List.take (Int.toNat (IntKind.wrap IntKind.i64 ((↑y_n : Int) + r0))) y))).bind fun r1 =>
            some r1
          else
            none
        else
          none
      else
        none
    else
      none
  else
    some false
def s129 : Spec := ⟨true, [(.bool, false)], true, .bool, fun k xs => match xs with | [.vslc 136 (.pair (.int .i64) (.pair (.int .i64) (.pair (.int .i64) (.int .i64)))) x x_n, .vslc 136 (.pair (.int .i64) (.pair (.int .i64) (.pair (.int .i64) (.int .i64)))) y y_n] => f129 k x x_n y y_n | _ => none⟩
def env49 : List (FuncId × Spec) := (129, s129) :: env48
theorem v129 (k : Nat) (x : List (Int × Int × Int × Int)) (x_n : Nat) (y : List (Int × Int × Int × Int)) (y_n : Nat) : runFn tiV (envOf env48) 26 [] (finT tiV true Go.Proofs.Try.f129.results.toList [(.bool, false)] (.bool)) k (bodyOf Go.Proofs.Try.f129) (initS 0 [.vslc 136 (.pair (.int .i64) (.pair (.int .i64) (.pair (.int .i64) (.int .i64)))) x x_n, .vslc 136 (.pair (.int .i64) (.pair (.int .i64) (.pair (.int .i64) (.int .i64)))) y y_n]) = f129 k x x_n y y_n := by kernel_rfl
theorem m129 : Meets Go.Proofs.Try.prog 129 s129 := meets_of_run tiVOk env48_ok mo Go.Proofs.Try.func129 (body := bodyOf Go.Proofs.Try.f129) (by kernel_rfl) (N := 26) (by kernel_rfl) (hs := []) (by
  intro k xs r h
  unfold s129 at h
  dsimp only at h
  split at h
  · exact ⟨Nat.le_of_ble_eq_true rfl, (v129 k _ _ _ _).trans h⟩
  · cases h)
theorem env49_ok : EnvOk Go.Proofs.Try.prog (envOf env49) := envOf_cons m129 Go.Proofs.Try.func129 (by kernel_rfl) (by kernel_rfl) env48_ok

-- laws.eqTermSS
def h130 : Hints := [(1004, .lab [(0, .one (.frz 133 (Ty.slice 136 (Ty.pair (Ty.int IntKind.i64) (Ty.pair (Ty.int IntKind.i64) (Ty.pair (Ty.int IntKind.i64) (Ty.int IntKind.i64))))))), (1, .one (.frz 133 (Ty.slice 136 (Ty.pair (Ty.int IntKind.i64) (Ty.pair (Ty.int IntKind.i64) (Ty.pair (Ty.int IntKind.i64) (Ty.int IntKind.i64))))))), (5, .one (.v))])]
def F130_1004 (k : Nat) (rec1004 : List (List (Int × Int × Int × Int)) → List (List (Int × Int × Int × Int)) → Int → Option (Bool)) (a : List (List (Int × Int × Int × Int))) (b : List (List (Int × Int × Int × Int))) (i : Int) : Option (Bool) :=
  bif decide (i < (↑(List.length a) : Int)) then
    bif boundA i (List.length a) then
      bif boundA i (List.length b) then
        (f161 k (List.getD a (Int.toNat i) []) (List.getD b (Int.toNat i) [])).bind fun r0 =>
        bif !r0 then
          some false
        else
          rec1004 a b (IntKind.wrap IntKind.i64 (i + 1))
      else
        none
    else
      none
  else
    some true
def F130 (k : Nat) (rec1004 : List (List (Int × Int × Int × Int)) → List (List (Int × Int × Int × Int)) → Int → Option (Bool)) (a : List (List (Int × Int × Int × Int))) (b : List (List (Int × Int × Int × Int))) : Option (Bool) :=
  bif !decide ((↑(List.length a) : Int) = (↑(List.length b) : Int)) then
    some false
  else
    rec1004 a b (0)
def l130 : Nat → (List (List (Int × Int × Int × Int)) → List (List (Int × Int × Int × Int)) → Int → Option (Bool))
  | 0 => fun _ _ _ => none
  | k + 1 => F130_1004 k (l130 k)
def f130 (k : Nat) (a : List (List (Int × Int × Int × Int))) (b : List (List (Int × Int × Int × Int))) : Option (Bool) := F130 k (l130 k) a b
def s130 : Spec := ⟨false, [(.bool, false)], true, .bool, fun k xs => match xs with | [.slc 133 (.slice 136 (.pair (.int .i64) (.pair (.int .i64) (.pair (.int .i64) (.int .i64))))) a, .slc 133 (.slice 136 (.pair (.int .i64) (.pair (.int .i64) (.pair (.int .i64) (.int .i64))))) b] => f130 k a b | _ => none⟩
def env50 : List (FuncId × Spec) := (130, s130) :: env49
noncomputable abbrev x130 := exec ti (envOf env49) 27 h130 (finT ti true Go.Proofs.Try.f130.results.toList [(.bool, false)] (.bool))
noncomputable def k130_1004 : List It := stackAt [.r, .r, .l, .r, .b, .lb none] (bodyOf Go.Proofs.Try.f130) []
def t130_1004 (a : List (List (Int × Int × Int × Int))) (b : List (List (Int × Int × Int × Int))) (i : Int) : St := [(0, Cell.val (AVal.slc 133 (Ty.slice 136 (Ty.pair (Ty.int IntKind.i64) (Ty.pair (Ty.int IntKind.i64) (Ty.pair (Ty.int IntKind.i64) (Ty.int IntKind.i64))))) a)), (2, Cell.val (AVal.slc 133 (Ty.slice 136 (Ty.pair (Ty.int IntKind.i64) (Ty.pair (Ty.int IntKind.i64) (Ty.pair (Ty.int IntKind.i64) (Ty.int IntKind.i64))))) b)), (10, Cell.val (AVal.int IntKind.i64 i))]
theorem e130_1004 (k : Nat) (a : List (List (Int × Int × Int × Int))) (b : List (List (Int × Int × Int × Int))) (i : Int) : x130 (k + 1) k130_1004 (t130_1004 a b i) = F130_1004 k (fun (a : List (List (Int × Int × Int × Int))) (b : List (List (Int × Int × Int × Int))) (i : Int) => x130 k k130_1004 (t130_1004 a b i)) a b i := by kernel_rfl
theorem q130 : ∀ k : Nat, (fun (a : List (List (Int × Int × Int × Int))) (b : List (List (Int × Int × Int × Int))) (i : Int) => x130 k k130_1004 (t130_1004 a b i)) = l130 k
  | 0 => rfl
  | k + 1 => by
    have h := q130 k
    show _ = F130_1004 k (l130 k)
    rw [← h]
    exact (funext fun a => funext fun b => funext fun i => e130_1004 k a b i)
theorem w130 (k : Nat) (a : List (List (Int × Int × Int × Int))) (b : List (List (Int × Int × Int × Int))) : runFn ti (envOf env49) 27 h130 (finT ti true Go.Proofs.Try.f130.results.toList [(.bool, false)] (.bool)) k (bodyOf Go.Proofs.Try.f130) (initS 0 [.slc 133 (.slice 136 (.pair (.int .i64) (.pair (.int .i64) (.pair (.int .i64) (.int .i64))))) a, .slc 133 (.slice 136 (.pair (.int .i64) (.pair (.int .i64) (.pair (.int .i64) (.int .i64))))) b]) = F130 k (fun (a : List (List (Int × Int × Int × Int))) (b : List (List (Int × Int × Int × Int))) (i : Int) => x130 k k130_1004 (t130_1004 a b i)) a b := by kernel_rfl
theorem v130 (k : Nat) (a : List (List (Int × Int × Int × Int))) (b : List (List (Int × Int × Int × Int))) : runFn ti (envOf env49) 27 h130 (finT ti true Go.Proofs.Try.f130.results.toList [(.bool, false)] (.bool)) k (bodyOf Go.Proofs.Try.f130) (initS 0 [.slc 133 (.slice 136 (.pair (.int .i64) (.pair (.int .i64) (.pair (.int .i64) (.int .i64))))) a, .slc 133 (.slice 136 (.pair (.int .i64) (.pair (.int .i64) (.pair (.int .i64) (.int .i64))))) b]) = f130 k a b := by
  rw [w130]
  have h := q130 k
  unfold f130
  rw [← h]
theorem m130 : Meets Go.Proofs.Try.prog 130 s130 := meets_of_run tiOk env49_ok mo Go.Proofs.Try.func130 (body := bodyOf Go.Proofs.Try.f130) (by kernel_rfl) (N := 27) (by kernel_rfl) (hs := h130) (by
  intro k xs r h
  unfold s130 at h
  dsimp only at h
  split at h
  · exact ⟨Nat.le_of_ble_eq_true rfl, (v130 k _ _).trans h⟩
  · cases h)
theorem env50_ok : EnvOk Go.Proofs.Try.prog (envOf env50) := envOf_cons m130 Go.Proofs.Try.func130 (by kernel_rfl) (by kernel_rfl) env49_ok

end Go.Proofs.YtnndolcjljhhcaaE
