/- Functions, by the engine; printed. -/
import Derived.Test.YtbaeikcfchiiaaaFD5
set_option maxRecDepth 100000
set_option maxHeartbeats 4000000
set_option linter.unusedVariables false
namespace Go.Proofs.YtbaeikcfchiiaaaE
-- impl.systemOver
def f209 (k : Nat) (s : List (List (Int × Int × Int × Int))) (b : Int × (List (Int)) × List (Int)) : Option (Bool) :=
  (f254 k s).bind fun r0 =>
  bif r0 then
    (f158 k b).bind fun r1 =>
    bif r1 then
      some (decide ((↑(List.length s) : Int) = (↑(List.length b.snd.fst) : Int)))
    else
      some false
  else
    some false
def s209 : Spec := ⟨false, [(.bool, false)], true, .bool, fun k xs => match xs with | [.slc 152 (.slice 150 (.pair (.int .i64) (.pair (.int .i64) (.pair (.int .i64) (.int .i64))))) s, .fptr (.pair (.int .i64) (.pair (.slice 3 (.int .i64)) (.slice 3 (.int .i64)))) b] => f209 k s b | _ => none⟩
def env61 : List (FuncId × Spec) := (209, s209) :: env60
theorem v209 (k : Nat) (s : List (List (Int × Int × Int × Int))) (b : Int × (List (Int)) × List (Int)) : runFn ti (envOf env60) 21 [] (finT ti true Go.Proofs.Try.f209.results.toList [(.bool, false)] (.bool)) k (bodyOf Go.Proofs.Try.f209) (initS 0 [.slc 152 (.slice 150 (.pair (.int .i64) (.pair (.int .i64) (.pair (.int .i64) (.int .i64))))) s, .fptr (.pair (.int .i64) (.pair (.slice 3 (.int .i64)) (.slice 3 (.int .i64)))) b]) = f209 k s b := by kernel_rfl
theorem m209 : Meets Go.Proofs.Try.prog 209 s209 := meets_of_run tiOk env60_ok mo Go.Proofs.Try.func209 (body := bodyOf Go.Proofs.Try.f209) (by kernel_rfl) (N := 21) (by kernel_rfl) (hs := []) (by
  intro k xs r h
  unfold s209 at h
  dsimp only at h
  split at h
  · exact ⟨Nat.le_of_ble_eq_true rfl, (v209 k _ _).trans h⟩
  · cases h)
theorem env61_ok : EnvOk Go.Proofs.Try.prog (envOf env61) := envOf_cons m209 Go.Proofs.Try.func209 (by kernel_rfl) (by kernel_rfl) env60_ok

-- impl.isEntry
def h144 : Hints := [(1002, .lab [(0, .one (.v)), (8, .one (.v)), (9, .one (.v))])]
def F144_1002 (k : Nat) (rec1002 : ByteArray × List (List (Int × Int × Int × Int)) × (Int × List Int × List Int) × Int × Int × Int → Int → Int → Option (Bool)) (L : ByteArray × List (List (Int × Int × Int × Int)) × (Int × List Int × List Int) × Int × Int × Int) (r : Int) (r_9 : Int) : Option (Bool) :=
  bif decide (r_9 < r) then
    bif boundA r_9 (ByteArray.size L.fst) then
      bif decide ((↑(UInt8.toNat (Array.getD L.fst.data (Int.toNat r_9) 0)) : Int) < 97) then
        some false
      else
        bif boundA r_9 (ByteArray.size L.fst) then
          bif decide (122 < (↑(UInt8.toNat (Array.getD L.fst.data (Int.toNat r_9) 0)) : Int)) then
            some false
          else
            rec1002 L r (IntKind.wrap IntKind.i64 (r_9 + 1))
        else
          none
    else
      none
  else
    (f128 k (↑(ByteArray.size L.fst) : Int) 1 8).bind fun r0 =>
    bif r0 then
      (f209 k L.snd.fst L.snd.snd.fst).bind fun r1 =>
      bif r1 then
        (f128 k L.snd.snd.snd.fst 0 L.snd.snd.snd.snd.fst).bind fun r2 =>
        bif r2 then
          bif decide (L.snd.snd.snd.snd.fst ≤ 64) then
            (f128 k L.snd.snd.snd.snd.snd 1 999).bind fun r3 =>
            some r3
          else
            some false
        else
          some false
      else
        some false
    else
      some false
def F144 (k : Nat) (rec1002 : ByteArray × List (List (Int × Int × Int × Int)) × (Int × List Int × List Int) × Int × Int × Int → Int → Int → Option (Bool)) (L : ByteArray × (List (List (Int × Int × Int × Int))) × (Int × (List (Int)) × List (Int)) × Int × Int × Int) : Option (Bool) :=
  rec1002 L ((↑(ByteArray.size L.fst) : Int)) (0)
def l144 : Nat → (ByteArray × List (List (Int × Int × Int × Int)) × (Int × List Int × List Int) × Int × Int × Int → Int → Int → Option (Bool))
  | 0 => fun _ _ _ => none
  | k + 1 => F144_1002 k (l144 k)
def f144 (k : Nat) (L : ByteArray × (List (List (Int × Int × Int × Int))) × (Int × (List (Int)) × List (Int)) × Int × Int × Int) : Option (Bool) := F144 k (l144 k) L
def s144 : Spec := ⟨false, [(.bool, false)], true, .bool, fun k xs => match xs with | [.fptr (.pair (.str) (.pair (.slice 152 (.slice 150 (.pair (.int .i64) (.pair (.int .i64) (.pair (.int .i64) (.int .i64)))))) (.pair (.pair (.int .i64) (.pair (.slice 3 (.int .i64)) (.slice 3 (.int .i64)))) (.pair (.int .i64) (.pair (.int .i64) (.int .i64)))))) L] => f144 k L | _ => none⟩
def env62 : List (FuncId × Spec) := (144, s144) :: env61
noncomputable abbrev x144 := exec ti (envOf env61) 70 h144 (finT ti true Go.Proofs.Try.f144.results.toList [(.bool, false)] (.bool))
noncomputable def k144_1002 : List It := stackAt [.r, .l, .r, .b, .lb none] (bodyOf Go.Proofs.Try.f144) []
def t144_1002 (L : ByteArray × List (List (Int × Int × Int × Int)) × (Int × List Int × List Int) × Int × Int × Int) (r : Int) (r_9 : Int) : St := [(0, Cell.val (AVal.fptr (Ty.pair Ty.str (Ty.pair (Ty.slice 152 (Ty.slice 150 (Ty.pair (Ty.int IntKind.i64) (Ty.pair (Ty.int IntKind.i64) (Ty.pair (Ty.int IntKind.i64) (Ty.int IntKind.i64)))))) (Ty.pair (Ty.pair (Ty.int IntKind.i64) (Ty.pair (Ty.slice 3 (Ty.int IntKind.i64)) (Ty.slice 3 (Ty.int IntKind.i64)))) (Ty.pair (Ty.int IntKind.i64) (Ty.pair (Ty.int IntKind.i64) (Ty.int IntKind.i64)))))) L)), (16, Cell.val (AVal.int IntKind.i64 r)), (18, Cell.val (AVal.int IntKind.i64 r_9))]
theorem e144_1002 (k : Nat) (L : ByteArray × List (List (Int × Int × Int × Int)) × (Int × List Int × List Int) × Int × Int × Int) (r : Int) (r_9 : Int) : x144 (k + 1) k144_1002 (t144_1002 L r r_9) = F144_1002 k (fun (L : ByteArray × List (List (Int × Int × Int × Int)) × (Int × List Int × List Int) × Int × Int × Int) (r : Int) (r_9 : Int) => x144 k k144_1002 (t144_1002 L r r_9)) L r r_9 := by kernel_rfl
theorem q144 : ∀ k : Nat, (fun (L : ByteArray × List (List (Int × Int × Int × Int)) × (Int × List Int × List Int) × Int × Int × Int) (r : Int) (r_9 : Int) => x144 k k144_1002 (t144_1002 L r r_9)) = l144 k
  | 0 => rfl
  | k + 1 => by
    have h := q144 k
    show _ = F144_1002 k (l144 k)
    rw [← h]
    exact (funext fun L => funext fun r => funext fun r_9 => e144_1002 k L r r_9)
theorem w144 (k : Nat) (L : ByteArray × (List (List (Int × Int × Int × Int))) × (Int × (List (Int)) × List (Int)) × Int × Int × Int) : runFn ti (envOf env61) 70 h144 (finT ti true Go.Proofs.Try.f144.results.toList [(.bool, false)] (.bool)) k (bodyOf Go.Proofs.Try.f144) (initS 0 [.fptr (.pair (.str) (.pair (.slice 152 (.slice 150 (.pair (.int .i64) (.pair (.int .i64) (.pair (.int .i64) (.int .i64)))))) (.pair (.pair (.int .i64) (.pair (.slice 3 (.int .i64)) (.slice 3 (.int .i64)))) (.pair (.int .i64) (.pair (.int .i64) (.int .i64)))))) L]) = F144 k (fun (L : ByteArray × List (List (Int × Int × Int × Int)) × (Int × List Int × List Int) × Int × Int × Int) (r : Int) (r_9 : Int) => x144 k k144_1002 (t144_1002 L r r_9)) L := by kernel_rfl
theorem v144 (k : Nat) (L : ByteArray × (List (List (Int × Int × Int × Int))) × (Int × (List (Int)) × List (Int)) × Int × Int × Int) : runFn ti (envOf env61) 70 h144 (finT ti true Go.Proofs.Try.f144.results.toList [(.bool, false)] (.bool)) k (bodyOf Go.Proofs.Try.f144) (initS 0 [.fptr (.pair (.str) (.pair (.slice 152 (.slice 150 (.pair (.int .i64) (.pair (.int .i64) (.pair (.int .i64) (.int .i64)))))) (.pair (.pair (.int .i64) (.pair (.slice 3 (.int .i64)) (.slice 3 (.int .i64)))) (.pair (.int .i64) (.pair (.int .i64) (.int .i64)))))) L]) = f144 k L := by
  rw [w144]
  have h := q144 k
  unfold f144
  rw [← h]
theorem m144 : Meets Go.Proofs.Try.prog 144 s144 := meets_of_run tiOk env61_ok mo Go.Proofs.Try.func144 (body := bodyOf Go.Proofs.Try.f144) (by kernel_rfl) (N := 70) (by kernel_rfl) (hs := h144) (by
  intro k xs r h
  unfold s144 at h
  dsimp only at h
  split at h
  · exact ⟨Nat.le_of_ble_eq_true rfl, (v144 k _).trans h⟩
  · cases h)
theorem env62_ok : EnvOk Go.Proofs.Try.prog (envOf env62) := envOf_cons m144 Go.Proofs.Try.func144 (by kernel_rfl) (by kernel_rfl) env61_ok

-- impl.isCatalogue
def h86 : Hints := [(1002, .lab [(0, .one (.frz 108 (Ty.pair Ty.str (Ty.pair (Ty.slice 152 (Ty.slice 150 (Ty.pair (Ty.int IntKind.i64) (Ty.pair (Ty.int IntKind.i64) (Ty.pair (Ty.int IntKind.i64) (Ty.int IntKind.i64)))))) (Ty.pair (Ty.pair (Ty.int IntKind.i64) (Ty.pair (Ty.slice 3 (Ty.int IntKind.i64)) (Ty.slice 3 (Ty.int IntKind.i64)))) (Ty.pair (Ty.int IntKind.i64) (Ty.pair (Ty.int IntKind.i64) (Ty.int IntKind.i64)))))))), (5, .one (.v)), (6, .one (.v))])]
def F86_1002 (k : Nat) (rec1002 : List (ByteArray × List (List (Int × Int × Int × Int)) × (Int × List Int × List Int) × Int × Int × Int) → Int → Int → Option (Bool)) (l : List (ByteArray × List (List (Int × Int × Int × Int)) × (Int × List Int × List Int) × Int × Int × Int)) (t5 : Int) (t6 : Int) : Option (Bool) :=
  bif decide (t6 < t5) then
    bif boundA t6 (List.length l) then
      (f144 k (List.getD l (Int.toNat t6) (ByteArray.empty, [], (0, [], []), 0, 0, 0))).bind fun r0 =>
      bif !r0 then
        some false
      else
        bif decide (0 < t6) then
          bif boundA (IntKind.wrap IntKind.i64 (t6 - 1)) (List.length l) then
            bif boundA t6 (List.length l) then
              bif !Op.bytesLess (ByteArray.toList (List.getD l (Int.toNat (IntKind.wrap IntKind.i64 (t6 - 1))) (ByteArray.empty, [], (0, [], []), 0, 0, 0)).fst) (ByteArray.toList (List.getD l (Int.toNat t6) (ByteArray.empty, [], (0, [], []), 0, 0, 0)).fst) then
                some false
              else
                rec1002 l t5 (IntKind.wrap IntKind.i64 (t6 + 1))
            else
              none
          else
            none
        else
          rec1002 l t5 (IntKind.wrap IntKind.i64 (t6 + 1))
    else
      none
  else
    some (decide ((↑(List.length l) : Int) ≤ 10))
def F86 (k : Nat) (rec1002 : List (ByteArray × List (List (Int × Int × Int × Int)) × (Int × List Int × List Int) × Int × Int × Int) → Int → Int → Option (Bool)) (l : List (ByteArray × (List (List (Int × Int × Int × Int))) × (Int × (List (Int)) × List (Int)) × Int × Int × Int)) : Option (Bool) :=
  rec1002 l ((↑(List.length l) : Int)) (0)
def l86 : Nat → (List (ByteArray × List (List (Int × Int × Int × Int)) × (Int × List Int × List Int) × Int × Int × Int) → Int → Int → Option (Bool))
  | 0 => fun _ _ _ => none
  | k + 1 => F86_1002 k (l86 k)
def f86 (k : Nat) (l : List (ByteArray × (List (List (Int × Int × Int × Int))) × (Int × (List (Int)) × List (Int)) × Int × Int × Int)) : Option (Bool) := F86 k (l86 k) l
def s86 : Spec := ⟨false, [(.bool, false)], true, .bool, fun k xs => match xs with | [.slc 108 (.pair (.str) (.pair (.slice 152 (.slice 150 (.pair (.int .i64) (.pair (.int .i64) (.pair (.int .i64) (.int .i64)))))) (.pair (.pair (.int .i64) (.pair (.slice 3 (.int .i64)) (.slice 3 (.int .i64)))) (.pair (.int .i64) (.pair (.int .i64) (.int .i64)))))) l] => f86 k l | _ => none⟩
def env63 : List (FuncId × Spec) := (86, s86) :: env62
noncomputable abbrev x86 := exec ti (envOf env62) 36 h86 (finT ti true Go.Proofs.Try.f86.results.toList [(.bool, false)] (.bool))
noncomputable def k86_1002 : List It := stackAt [.r, .l, .r, .b, .lb none] (bodyOf Go.Proofs.Try.f86) []
def t86_1002 (l : List (ByteArray × List (List (Int × Int × Int × Int)) × (Int × List Int × List Int) × Int × Int × Int)) (t5 : Int) (t6 : Int) : St := [(0, Cell.val (AVal.slc 108 (Ty.pair Ty.str (Ty.pair (Ty.slice 152 (Ty.slice 150 (Ty.pair (Ty.int IntKind.i64) (Ty.pair (Ty.int IntKind.i64) (Ty.pair (Ty.int IntKind.i64) (Ty.int IntKind.i64)))))) (Ty.pair (Ty.pair (Ty.int IntKind.i64) (Ty.pair (Ty.slice 3 (Ty.int IntKind.i64)) (Ty.slice 3 (Ty.int IntKind.i64)))) (Ty.pair (Ty.int IntKind.i64) (Ty.pair (Ty.int IntKind.i64) (Ty.int IntKind.i64)))))) l)), (10, Cell.val (AVal.int IntKind.i64 t5)), (12, Cell.val (AVal.int IntKind.i64 t6))]
theorem e86_1002 (k : Nat) (l : List (ByteArray × List (List (Int × Int × Int × Int)) × (Int × List Int × List Int) × Int × Int × Int)) (t5 : Int) (t6 : Int) : x86 (k + 1) k86_1002 (t86_1002 l t5 t6) = F86_1002 k (fun (l : List (ByteArray × List (List (Int × Int × Int × Int)) × (Int × List Int × List Int) × Int × Int × Int)) (t5 : Int) (t6 : Int) => x86 k k86_1002 (t86_1002 l t5 t6)) l t5 t6 := by kernel_rfl
theorem q86 : ∀ k : Nat, (fun (l : List (ByteArray × List (List (Int × Int × Int × Int)) × (Int × List Int × List Int) × Int × Int × Int)) (t5 : Int) (t6 : Int) => x86 k k86_1002 (t86_1002 l t5 t6)) = l86 k
  | 0 => rfl
  | k + 1 => by
    have h := q86 k
    show _ = F86_1002 k (l86 k)
    rw [← h]
    exact (funext fun l => funext fun t5 => funext fun t6 => e86_1002 k l t5 t6)
theorem w86 (k : Nat) (l : List (ByteArray × (List (List (Int × Int × Int × Int))) × (Int × (List (Int)) × List (Int)) × Int × Int × Int)) : runFn ti (envOf env62) 36 h86 (finT ti true Go.Proofs.Try.f86.results.toList [(.bool, false)] (.bool)) k (bodyOf Go.Proofs.Try.f86) (initS 0 [.slc 108 (.pair (.str) (.pair (.slice 152 (.slice 150 (.pair (.int .i64) (.pair (.int .i64) (.pair (.int .i64) (.int .i64)))))) (.pair (.pair (.int .i64) (.pair (.slice 3 (.int .i64)) (.slice 3 (.int .i64)))) (.pair (.int .i64) (.pair (.int .i64) (.int .i64)))))) l]) = F86 k (fun (l : List (ByteArray × List (List (Int × Int × Int × Int)) × (Int × List Int × List Int) × Int × Int × Int)) (t5 : Int) (t6 : Int) => x86 k k86_1002 (t86_1002 l t5 t6)) l := by kernel_rfl
theorem v86 (k : Nat) (l : List (ByteArray × (List (List (Int × Int × Int × Int))) × (Int × (List (Int)) × List (Int)) × Int × Int × Int)) : runFn ti (envOf env62) 36 h86 (finT ti true Go.Proofs.Try.f86.results.toList [(.bool, false)] (.bool)) k (bodyOf Go.Proofs.Try.f86) (initS 0 [.slc 108 (.pair (.str) (.pair (.slice 152 (.slice 150 (.pair (.int .i64) (.pair (.int .i64) (.pair (.int .i64) (.int .i64)))))) (.pair (.pair (.int .i64) (.pair (.slice 3 (.int .i64)) (.slice 3 (.int .i64)))) (.pair (.int .i64) (.pair (.int .i64) (.int .i64)))))) l]) = f86 k l := by
  rw [w86]
  have h := q86 k
  unfold f86
  rw [← h]
theorem m86 : Meets Go.Proofs.Try.prog 86 s86 := meets_of_run tiOk env62_ok mo Go.Proofs.Try.func86 (body := bodyOf Go.Proofs.Try.f86) (by kernel_rfl) (N := 36) (by kernel_rfl) (hs := h86) (by
  intro k xs r h
  unfold s86 at h
  dsimp only at h
  split at h
  · exact ⟨Nat.le_of_ble_eq_true rfl, (v86 k _).trans h⟩
  · cases h)
theorem env63_ok : EnvOk Go.Proofs.Try.prog (envOf env63) := envOf_cons m86 Go.Proofs.Try.func86 (by kernel_rfl) (by kernel_rfl) env62_ok

-- bytealg.abigen_runtime_cmpstring
def f270 (k : Nat) (a : ByteArray) (b : ByteArray) : Option (Int) :=
  cmpS a b
def s270 : Spec := str2 f270
def env64 : List (FuncId × Spec) := (270, s270) :: env63
theorem m270 : Now Go.Proofs.Try.prog 270 s270 := now_str2 (e := Extern.BytealgCompare.compare) Go.Proofs.Try.func270 (by kernel_rfl) (by kernel_rfl) (by kernel_rfl) (by kernel_rfl) (fun _ _ _ _ _ h => cmpS_run h)
theorem env64_ok : EnvOk Go.Proofs.Try.prog (envOf env64) := envOf_any (.inr m270) env63_ok

-- bytealg.CompareString
def f230 (k : Nat) (a : ByteArray) (b : ByteArray) : Option (Int) :=
  some (Extern.BytealgCompare.cmp a b)
def s230 : Spec := ⟨false, [(.int .i64, false)], true, .int .i64, fun k xs => match xs with | [.str a, .str b] => f230 k a b | _ => none⟩
def env65 : List (FuncId × Spec) := (230, s230) :: env64
theorem v230 (k : Nat) (a : ByteArray) (b : ByteArray) : runFn ti (envOf env64) 8 [] (finT ti true Go.Proofs.Try.f230.results.toList [(.int .i64, false)] (.int .i64)) k (bodyOf Go.Proofs.Try.f230) (initS 0 [.str a, .str b]) = f230 k a b := by kernel_rfl
theorem m230 : Meets Go.Proofs.Try.prog 230 s230 := meets_of_run tiOk env64_ok mo Go.Proofs.Try.func230 (body := bodyOf Go.Proofs.Try.f230) (by kernel_rfl) (N := 8) (by kernel_rfl) (hs := []) (by
  intro k xs r h
  unfold s230 at h
  dsimp only at h
  split at h
  · exact ⟨Nat.le_of_ble_eq_true rfl, (v230 k _ _).trans h⟩
  · cases h)
theorem env65_ok : EnvOk Go.Proofs.Try.prog (envOf env65) := envOf_cons m230 Go.Proofs.Try.func230 (by kernel_rfl) (by kernel_rfl) env64_ok

-- strings.Compare
def f163 (k : Nat) (a : ByteArray) (b : ByteArray) : Option (Int) :=
  some (Extern.BytealgCompare.cmp a b)
def s163 : Spec := ⟨false, [(.int .i64, false)], true, .int .i64, fun k xs => match xs with | [.str a, .str b] => f163 k a b | _ => none⟩
def env66 : List (FuncId × Spec) := (163, s163) :: env65
theorem v163 (k : Nat) (a : ByteArray) (b : ByteArray) : runFn ti (envOf env65) 8 [] (finT ti true Go.Proofs.Try.f163.results.toList [(.int .i64, false)] (.int .i64)) k (bodyOf Go.Proofs.Try.f163) (initS 0 [.str a, .str b]) = f163 k a b := by kernel_rfl
theorem m163 : Meets Go.Proofs.Try.prog 163 s163 := meets_of_run tiOk env65_ok mo Go.Proofs.Try.func163 (body := bodyOf Go.Proofs.Try.f163) (by kernel_rfl) (N := 8) (by kernel_rfl) (hs := []) (by
  intro k xs r h
  unfold s163 at h
  dsimp only at h
  split at h
  · exact ⟨Nat.le_of_ble_eq_true rfl, (v163 k _ _).trans h⟩
  · cases h)
theorem env66_ok : EnvOk Go.Proofs.Try.prog (envOf env66) := envOf_cons m163 Go.Proofs.Try.func163 (by kernel_rfl) (by kernel_rfl) env65_ok

-- impl.entryPlace$1
def f162 (k : Nat) (e_Name : ByteArray) (e_System : List (List (Int × Int × Int × Int))) (e_Box_K : Int) (e_Box_Low : List (Int)) (e_Box_High : List (Int)) (e_Least : Int) (e_Most : Int) (e_Version : Int) (n : ByteArray) : Option (Int) :=
  some (Extern.BytealgCompare.cmp e_Name n)
def s162 : Spec := ⟨false, [(.int .i64, false)], true, .int .i64, fun k xs => match xs with | [.agg [.str e_Name, .slc 152 (.slice 150 (.pair (.int .i64) (.pair (.int .i64) (.pair (.int .i64) (.int .i64))))) e_System, .int .i64 e_Box_K, .slc 3 (.int .i64) e_Box_Low, .slc 3 (.int .i64) e_Box_High, .int .i64 e_Least, .int .i64 e_Most, .int .i64 e_Version], .str n] => f162 k e_Name e_System e_Box_K e_Box_Low e_Box_High e_Least e_Most e_Version n | _ => none⟩
def env67 : List (FuncId × Spec) := (162, s162) :: env66
theorem v162 (k : Nat) (e_Name : ByteArray) (e_System : List (List (Int × Int × Int × Int))) (e_Box_K : Int) (e_Box_Low : List (Int)) (e_Box_High : List (Int)) (e_Least : Int) (e_Most : Int) (e_Version : Int) (n : ByteArray) : runFn ti (envOf env66) 9 [] (finT ti true Go.Proofs.Try.f162.results.toList [(.int .i64, false)] (.int .i64)) k (bodyOf Go.Proofs.Try.f162) (initS 0 [.agg [.str e_Name, .slc 152 (.slice 150 (.pair (.int .i64) (.pair (.int .i64) (.pair (.int .i64) (.int .i64))))) e_System, .int .i64 e_Box_K, .slc 3 (.int .i64) e_Box_Low, .slc 3 (.int .i64) e_Box_High, .int .i64 e_Least, .int .i64 e_Most, .int .i64 e_Version], .str n]) = f162 k e_Name e_System e_Box_K e_Box_Low e_Box_High e_Least e_Most e_Version n := by kernel_rfl
theorem m162 : Meets Go.Proofs.Try.prog 162 s162 := meets_of_run tiOk env66_ok mo Go.Proofs.Try.func162 (body := bodyOf Go.Proofs.Try.f162) (by kernel_rfl) (N := 9) (by kernel_rfl) (hs := []) (by
  intro k xs r h
  unfold s162 at h
  dsimp only at h
  split at h
  · exact ⟨Nat.le_of_ble_eq_true rfl, (v162 k _ _ _ _ _ _ _ _ _).trans h⟩
  · cases h)
theorem env67_ok : EnvOk Go.Proofs.Try.prog (envOf env67) := envOf_cons m162 Go.Proofs.Try.func162 (by kernel_rfl) (by kernel_rfl) env66_ok

-- impl.Entry,string]
def h161_162 : Hints := [(1003, .lab [(0, .one (.frz 108 (Ty.pair Ty.str (Ty.pair (Ty.slice 152 (Ty.slice 150 (Ty.pair (Ty.int IntKind.i64) (Ty.pair (Ty.int IntKind.i64) (Ty.pair (Ty.int IntKind.i64) (Ty.int IntKind.i64)))))) (Ty.pair (Ty.pair (Ty.int IntKind.i64) (Ty.pair (Ty.slice 3 (Ty.int IntKind.i64)) (Ty.slice 3 (Ty.int IntKind.i64)))) (Ty.pair (Ty.int IntKind.i64) (Ty.pair (Ty.int IntKind.i64) (Ty.int IntKind.i64)))))))), (1, .one (.v)), (2, .one (.v)), (8, .one (.v)), (9, .one (.v)), (10, .one (.v))])]
def F161_162_1003 (k : Nat) (rec1003 : List (ByteArray × List (List (Int × Int × Int × Int)) × (Int × List Int × List Int) × Int × Int × Int) → ByteArray → Int → Int → Int → Option (Int × Bool)) (x : List (ByteArray × List (List (Int × Int × Int × Int)) × (Int × List Int × List Int) × Int × Int × Int)) (target : ByteArray) (n : Int) (i : Int) (j : Int) : Option (Int × Bool) :=
  bif decide (i < j) then
    bif boundA (IntKind.wrap IntKind.i64 (Int.fdiv (IntKind.wrap IntKind.u64 (IntKind.wrap IntKind.i64 (i + j))) (2 ^ min (Int.toNat 1) (IntKind.bits IntKind.u64)))) (List.length x) then
      bif decide (Extern.BytealgCompare.cmp (List.getD x (Int.toNat (IntKind.wrap IntKind.i64 (Int.fdiv (IntKind.wrap IntKind.u64 (IntKind.wrap IntKind.i64 (i + j))) (2 ^ min (Int.toNat 1) (IntKind.bits IntKind.u64))))) (ByteArray.empty, [], (0, [], []), 0, 0, 0)).fst target < 0) then
        rec1003 x target n (IntKind.wrap IntKind.i64 (IntKind.wrap IntKind.i64 (Int.fdiv (IntKind.wrap IntKind.u64 (IntKind.wrap IntKind.i64 (i + j))) (2 ^ min (Int.toNat 1) (IntKind.bits IntKind.u64))) + 1)) j
      else
        rec1003 x target n i (IntKind.wrap IntKind.i64 (Int.fdiv (IntKind.wrap IntKind.u64 (IntKind.wrap IntKind.i64 (i + j))) (2 ^ min (Int.toNat 1) (IntKind.bits IntKind.u64))))
    else
      none
  else
    bif decide (i < n) then
      bif boundA i (List.length x) then
        some ((i, decide (Extern.BytealgCompare.cmp (List.getD x (Int.toNat i) (ByteArray.empty, [], (0, [], []), 0, 0, 0)).fst target = 0)))
      else
        none
    else
      some ((i, false))
def F161_162 (k : Nat) (rec1003 : List (ByteArray × List (List (Int × Int × Int × Int)) × (Int × List Int × List Int) × Int × Int × Int) → ByteArray → Int → Int → Int → Option (Int × Bool)) (x : List (ByteArray × (List (List (Int × Int × Int × Int))) × (Int × (List (Int)) × List (Int)) × Int × Int × Int)) (target : ByteArray) : Option (Int × Bool) :=
  rec1003 x target ((↑(List.length x) : Int)) (0) ((↑(List.length x) : Int))
def l161_162 : Nat → (List (ByteArray × List (List (Int × Int × Int × Int)) × (Int × List Int × List Int) × Int × Int × Int) → ByteArray → Int → Int → Int → Option (Int × Bool))
  | 0 => fun _ _ _ _ _ => none
  | k + 1 => F161_162_1003 k (l161_162 k)
def f161_162 (k : Nat) (x : List (ByteArray × (List (List (Int × Int × Int × Int))) × (Int × (List (Int)) × List (Int)) × Int × Int × Int)) (target : ByteArray) : Option (Int × Bool) := F161_162 k (l161_162 k) x target
def s161 : Spec := ⟨false, [(.int .i64, false), (.bool, false)], true, .pair (.int .i64) (.bool), fun k xs => match xs with | [.slc 108 (.pair (.str) (.pair (.slice 152 (.slice 150 (.pair (.int .i64) (.pair (.int .i64) (.pair (.int .i64) (.int .i64)))))) (.pair (.pair (.int .i64) (.pair (.slice 3 (.int .i64)) (.slice 3 (.int .i64)))) (.pair (.int .i64) (.pair (.int .i64) (.int .i64)))))) x, .str target, .fn 162] => f161_162 k x target | _ => none⟩
def env68 : List (FuncId × Spec) := (161, s161) :: env67
noncomputable abbrev x161_162 := exec ti (envOf env67) 49 h161_162 (finT ti true Go.Proofs.Try.f161.results.toList [(.int .i64, false), (.bool, false)] (.pair (.int .i64) (.bool)))
noncomputable def k161_162_1003 : List It := stackAt [.r, .r, .r, .l, .b, .lb none] (bodyOf Go.Proofs.Try.f161) []
def t161_162_1003 (x : List (ByteArray × List (List (Int × Int × Int × Int)) × (Int × List Int × List Int) × Int × Int × Int)) (target : ByteArray) (n : Int) (i : Int) (j : Int) : St := [(0, Cell.val (AVal.slc 108 (Ty.pair Ty.str (Ty.pair (Ty.slice 152 (Ty.slice 150 (Ty.pair (Ty.int IntKind.i64) (Ty.pair (Ty.int IntKind.i64) (Ty.pair (Ty.int IntKind.i64) (Ty.int IntKind.i64)))))) (Ty.pair (Ty.pair (Ty.int IntKind.i64) (Ty.pair (Ty.slice 3 (Ty.int IntKind.i64)) (Ty.slice 3 (Ty.int IntKind.i64)))) (Ty.pair (Ty.int IntKind.i64) (Ty.pair (Ty.int IntKind.i64) (Ty.int IntKind.i64)))))) x)), (2, Cell.val (AVal.str target)), (4, Cell.val (AVal.fn 162)), (16, Cell.val (AVal.int IntKind.i64 n)), (18, Cell.val (AVal.int IntKind.i64 i)), (20, Cell.val (AVal.int IntKind.i64 j))]
theorem e161_162_1003 (k : Nat) (x : List (ByteArray × List (List (Int × Int × Int × Int)) × (Int × List Int × List Int) × Int × Int × Int)) (target : ByteArray) (n : Int) (i : Int) (j : Int) : x161_162 (k + 1) k161_162_1003 (t161_162_1003 x target n i j) = F161_162_1003 k (fun (x : List (ByteArray × List (List (Int × Int × Int × Int)) × (Int × List Int × List Int) × Int × Int × Int)) (target : ByteArray) (n : Int) (i : Int) (j : Int) => x161_162 k k161_162_1003 (t161_162_1003 x target n i j)) x target n i j := by kernel_rfl
theorem q161_162 : ∀ k : Nat, (fun (x : List (ByteArray × List (List (Int × Int × Int × Int)) × (Int × List Int × List Int) × Int × Int × Int)) (target : ByteArray) (n : Int) (i : Int) (j : Int) => x161_162 k k161_162_1003 (t161_162_1003 x target n i j)) = l161_162 k
  | 0 => rfl
  | k + 1 => by
    have h := q161_162 k
    show _ = F161_162_1003 k (l161_162 k)
    rw [← h]
    exact (funext fun x => funext fun target => funext fun n => funext fun i => funext fun j => e161_162_1003 k x target n i j)
theorem w161_162 (k : Nat) (x : List (ByteArray × (List (List (Int × Int × Int × Int))) × (Int × (List (Int)) × List (Int)) × Int × Int × Int)) (target : ByteArray) : runFn ti (envOf env67) 49 h161_162 (finT ti true Go.Proofs.Try.f161.results.toList [(.int .i64, false), (.bool, false)] (.pair (.int .i64) (.bool))) k (bodyOf Go.Proofs.Try.f161) (initS 0 [.slc 108 (.pair (.str) (.pair (.slice 152 (.slice 150 (.pair (.int .i64) (.pair (.int .i64) (.pair (.int .i64) (.int .i64)))))) (.pair (.pair (.int .i64) (.pair (.slice 3 (.int .i64)) (.slice 3 (.int .i64)))) (.pair (.int .i64) (.pair (.int .i64) (.int .i64)))))) x, .str target, .fn 162]) = F161_162 k (fun (x : List (ByteArray × List (List (Int × Int × Int × Int)) × (Int × List Int × List Int) × Int × Int × Int)) (target : ByteArray) (n : Int) (i : Int) (j : Int) => x161_162 k k161_162_1003 (t161_162_1003 x target n i j)) x target := by kernel_rfl
theorem v161_162 (k : Nat) (x : List (ByteArray × (List (List (Int × Int × Int × Int))) × (Int × (List (Int)) × List (Int)) × Int × Int × Int)) (target : ByteArray) : runFn ti (envOf env67) 49 h161_162 (finT ti true Go.Proofs.Try.f161.results.toList [(.int .i64, false), (.bool, false)] (.pair (.int .i64) (.bool))) k (bodyOf Go.Proofs.Try.f161) (initS 0 [.slc 108 (.pair (.str) (.pair (.slice 152 (.slice 150 (.pair (.int .i64) (.pair (.int .i64) (.pair (.int .i64) (.int .i64)))))) (.pair (.pair (.int .i64) (.pair (.slice 3 (.int .i64)) (.slice 3 (.int .i64)))) (.pair (.int .i64) (.pair (.int .i64) (.int .i64)))))) x, .str target, .fn 162]) = f161_162 k x target := by
  rw [w161_162]
  have h := q161_162 k
  unfold f161_162
  rw [← h]
theorem m161 : Meets Go.Proofs.Try.prog 161 s161 := meets_of_run tiOk env67_ok mo Go.Proofs.Try.func161 (body := bodyOf Go.Proofs.Try.f161) (by kernel_rfl) (N := 49) (by kernel_rfl) (hs := h161_162) (by
  intro k xs r h
  unfold s161 at h
  dsimp only at h
  split at h
  · exact ⟨Nat.le_of_ble_eq_true rfl, (v161_162 k _ _).trans h⟩
  · cases h)
theorem env68_ok : EnvOk Go.Proofs.Try.prog (envOf env68) := envOf_cons m161 Go.Proofs.Try.func161 (by kernel_rfl) (by kernel_rfl) env67_ok

-- impl.entryPlace
def f108 (k : Nat) (l : List (ByteArray × (List (List (Int × Int × Int × Int))) × (Int × (List (Int)) × List (Int)) × Int × Int × Int)) (name : ByteArray) : Option (Int × Bool) :=
  (f161_162 k l name).bind fun r0 =>
  some ((r0.fst, r0.snd))
def s108 : Spec := ⟨false, [(.int .i64, false), (.bool, false)], true, .pair (.int .i64) (.bool), fun k xs => match xs with | [.slc 108 (.pair (.str) (.pair (.slice 152 (.slice 150 (.pair (.int .i64) (.pair (.int .i64) (.pair (.int .i64) (.int .i64)))))) (.pair (.pair (.int .i64) (.pair (.slice 3 (.int .i64)) (.slice 3 (.int .i64)))) (.pair (.int .i64) (.pair (.int .i64) (.int .i64)))))) l, .str name] => f108 k l name | _ => none⟩
def env69 : List (FuncId × Spec) := (108, s108) :: env68
theorem v108 (k : Nat) (l : List (ByteArray × (List (List (Int × Int × Int × Int))) × (Int × (List (Int)) × List (Int)) × Int × Int × Int)) (name : ByteArray) : runFn ti (envOf env68) 11 [] (finT ti true Go.Proofs.Try.f108.results.toList [(.int .i64, false), (.bool, false)] (.pair (.int .i64) (.bool))) k (bodyOf Go.Proofs.Try.f108) (initS 0 [.slc 108 (.pair (.str) (.pair (.slice 152 (.slice 150 (.pair (.int .i64) (.pair (.int .i64) (.pair (.int .i64) (.int .i64)))))) (.pair (.pair (.int .i64) (.pair (.slice 3 (.int .i64)) (.slice 3 (.int .i64)))) (.pair (.int .i64) (.pair (.int .i64) (.int .i64)))))) l, .str name]) = f108 k l name := by kernel_rfl
theorem m108 : Meets Go.Proofs.Try.prog 108 s108 := meets_of_run tiOk env68_ok mo Go.Proofs.Try.func108 (body := bodyOf Go.Proofs.Try.f108) (by kernel_rfl) (N := 11) (by kernel_rfl) (hs := []) (by
  intro k xs r h
  unfold s108 at h
  dsimp only at h
  split at h
  · exact ⟨Nat.le_of_ble_eq_true rfl, (v108 k _ _).trans h⟩
  · cases h)
theorem env69_ok : EnvOk Go.Proofs.Try.prog (envOf env69) := envOf_cons m108 Go.Proofs.Try.func108 (by kernel_rfl) (by kernel_rfl) env68_ok

-- impl.FindSystem
def f48 (k : Nat) (l : List (ByteArray × (List (List (Int × Int × Int × Int))) × (Int × (List (Int)) × List (Int)) × Int × Int × Int)) (name : ByteArray) : Option (Int × Bool) :=
  (f86 k l).bind fun r0 =>
  bif !r0 then
    some ((0, false))
  else
    (f108 k l name).bind fun r1 =>
    bif !r1.snd then
      some ((0, false))
    else
      some ((r1.fst, true))
def s48 : Spec := ⟨false, [(.int .i64, false), (.bool, false)], true, .pair (.int .i64) (.bool), fun k xs => match xs with | [.slc 108 (.pair (.str) (.pair (.slice 152 (.slice 150 (.pair (.int .i64) (.pair (.int .i64) (.pair (.int .i64) (.int .i64)))))) (.pair (.pair (.int .i64) (.pair (.slice 3 (.int .i64)) (.slice 3 (.int .i64)))) (.pair (.int .i64) (.pair (.int .i64) (.int .i64)))))) l, .str name] => f48 k l name | _ => none⟩
def env70 : List (FuncId × Spec) := (48, s48) :: env69
theorem v48 (k : Nat) (l : List (ByteArray × (List (List (Int × Int × Int × Int))) × (Int × (List (Int)) × List (Int)) × Int × Int × Int)) (name : ByteArray) : runFn ti (envOf env69) 20 [] (finT ti true Go.Proofs.Try.f48.results.toList [(.int .i64, false), (.bool, false)] (.pair (.int .i64) (.bool))) k (bodyOf Go.Proofs.Try.f48) (initS 0 [.slc 108 (.pair (.str) (.pair (.slice 152 (.slice 150 (.pair (.int .i64) (.pair (.int .i64) (.pair (.int .i64) (.int .i64)))))) (.pair (.pair (.int .i64) (.pair (.slice 3 (.int .i64)) (.slice 3 (.int .i64)))) (.pair (.int .i64) (.pair (.int .i64) (.int .i64)))))) l, .str name]) = f48 k l name := by kernel_rfl
theorem m48 : Meets Go.Proofs.Try.prog 48 s48 := meets_of_run tiOk env69_ok mo Go.Proofs.Try.func48 (body := bodyOf Go.Proofs.Try.f48) (by kernel_rfl) (N := 20) (by kernel_rfl) (hs := []) (by
  intro k xs r h
  unfold s48 at h
  dsimp only at h
  split at h
  · exact ⟨Nat.le_of_ble_eq_true rfl, (v48 k _ _).trans h⟩
  · cases h)
theorem env70_ok : EnvOk Go.Proofs.Try.prog (envOf env70) := envOf_cons m48 Go.Proofs.Try.func48 (by kernel_rfl) (by kernel_rfl) env69_ok

-- laws.FnExactFindSystem
def f9 (k : Nat) (aL : List (ByteArray × (List (List (Int × Int × Int × Int))) × (Int × (List (Int)) × List (Int)) × Int × Int × Int)) (aName : ByteArray) : Option (Bool) :=
  (f22 k aL (IntKind.wrap IntKind.i64 (1000000 - (↑(ByteArray.size aName) : Int)))).bind fun r0 =>
  bif decide (r0 < 0) then
    some true
  else
    (f24 k aL false).bind fun r1 =>
    (f47 k (List.map (fun (x : T (Ty.pair Ty.str (Ty.pair (Ty.vslice 152 (Ty.vslice 150 (Ty.pair (Ty.int IntKind.i64) (Ty.pair (Ty.int IntKind.i64) (Ty.pair (Ty.int IntKind.i64) (Ty.int IntKind.i64)))))) (Ty.pair (Ty.pair (Ty.int IntKind.i64) (Ty.pair (Ty.vslice 3 (Ty.int IntKind.i64)) (Ty.vslice 3 (Ty.int IntKind.i64)))) (Ty.pair (Ty.int IntKind.i64) (Ty.pair (Ty.int IntKind.i64) (Ty.int IntKind.i64))))))) => (x.fst, List.map (fun (x : T (Ty.vslice 150 (Ty.pair (Ty.int IntKind.i64) (Ty.pair (Ty.int IntKind.i64) (Ty.pair (Ty.int IntKind.i64) (Ty.int IntKind.i64)))))) => List.map (fun (x : T (Ty.pair (Ty.int IntKind.i64) (Ty.pair (Ty.int IntKind.i64) (Ty.pair (Ty.int IntKind.i64) (Ty.int IntKind.i64))))) => (x.fst, x.snd.fst, x.snd.snd.fst, x.snd.snd.snd)) (List.take x.snd x.fst)) (List.take x.snd.fst.snd x.snd.fst.fst), (x.snd.snd.fst.fst, List.map (fun (x : T (Ty.int IntKind.i64)) => x) (List.take x.snd.snd.fst.snd.fst.snd x.snd.snd.fst.snd.fst.fst), List.map (fun (x : T (Ty.int IntKind.i64)) => x) (List.take x.snd.snd.fst.snd.snd.snd x.snd.snd.fst.snd.snd.fst)), x.snd.snd.snd.fst, x.snd.snd.snd.snd.fst, x.snd.snd.snd.snd.snd)) (List.take r1.snd r1.fst)) aName).bind fun r2 =>
    (f24 k aL false).bind fun r3 =>
    (f48 k (List.map (fun (x : T (Ty.pair Ty.str (Ty.pair (Ty.vslice 152 (Ty.vslice 150 (Ty.pair (Ty.int IntKind.i64) (Ty.pair (Ty.int IntKind.i64) (Ty.pair (Ty.int IntKind.i64) (Ty.int IntKind.i64)))))) (Ty.pair (Ty.pair (Ty.int IntKind.i64) (Ty.pair (Ty.vslice 3 (Ty.int IntKind.i64)) (Ty.vslice 3 (Ty.int IntKind.i64)))) (Ty.pair (Ty.int IntKind.i64) (Ty.pair (Ty.int IntKind.i64) (Ty.int IntKind.i64))))))) => (x.fst, List.map (fun (x : T (Ty.vslice 150 (Ty.pair (Ty.int IntKind.i64) (Ty.pair (Ty.int IntKind.i64) (Ty.pair (Ty.int IntKind.i64) (Ty.int IntKind.i64)))))) => List.map (fun (x : T (Ty.pair (Ty.int IntKind.i64) (Ty.pair (Ty.int IntKind.i64) (Ty.pair (Ty.int IntKind.i64) (Ty.int IntKind.i64))))) => (x.fst, x.snd.fst, x.snd.snd.fst, x.snd.snd.snd)) (List.take x.snd x.fst)) (List.take x.snd.fst.snd x.snd.fst.fst), (x.snd.snd.fst.fst, List.map (fun (x : T (Ty.int IntKind.i64)) => x) (List.take x.snd.snd.fst.snd.fst.snd x.snd.snd.fst.snd.fst.fst), List.map (fun (x : T (Ty.int IntKind.i64)) => x) (List.take x.snd.snd.fst.snd.snd.snd x.snd.snd.fst.snd.snd.fst)), x.snd.snd.snd.fst, x.snd.snd.snd.snd.fst, x.snd.snd.snd.snd.snd)) (List.take r3.snd r3.fst)) aName).bind fun r4 =>
    bif !decide (r4.fst = r2.fst) then
      some false
    else
      bif !r4.snd == r2.snd then
        some false
      else
        (f24 k aL false).bind fun r5 =>
        (f26 k r3.fst r3.snd r5.fst r5.snd).bind fun r6 =>
        bif !r6 then
          some false
        else
          (f24 k aL true).bind fun r7 =>
          (f48 k (List.map (fun (x : T (Ty.pair Ty.str (Ty.pair (Ty.vslice 152 (Ty.vslice 150 (Ty.pair (Ty.int IntKind.i64) (Ty.pair (Ty.int IntKind.i64) (Ty.pair (Ty.int IntKind.i64) (Ty.int IntKind.i64)))))) (Ty.pair (Ty.pair (Ty.int IntKind.i64) (Ty.pair (Ty.vslice 3 (Ty.int IntKind.i64)) (Ty.vslice 3 (Ty.int IntKind.i64)))) (Ty.pair (Ty.int IntKind.i64) (Ty.pair (Ty.int IntKind.i64) (Ty.int IntKind.i64))))))) => (x.fst, List.map (fun (x : T (Ty.vslice 150 (Ty.pair (Ty.int IntKind.i64) (Ty.pair (Ty.int IntKind.i64) (Ty.pair (Ty.int IntKind.i64) (Ty.int IntKind.i64)))))) => List.map (fun (x : T (Ty.pair (Ty.int IntKind.i64) (Ty.pair (Ty.int IntKind.i64) (Ty.pair (Ty.int IntKind.i64) (Ty.int IntKind.i64))))) => (x.fst, x.snd.fst, x.snd.snd.fst, x.snd.snd.snd)) (List.take x.snd x.fst)) (List.take x.snd.fst.snd x.snd.fst.fst), (x.snd.snd.fst.fst, List.map (fun (x : T (Ty.int IntKind.i64)) => x) (List.take x.snd.snd.fst.snd.fst.snd x.snd.snd.fst.snd.fst.fst), List.map (fun (x : T (Ty.int IntKind.i64)) => x) (List.take x.snd.snd.fst.snd.snd.snd x.snd.snd.fst.snd.snd.fst)), x.snd.snd.snd.fst, x.snd.snd.snd.snd.fst, x.snd.snd.snd.snd.snd)) (List.take r7.snd r7.fst)) aName).bind fun r8 =>
          bif !decide (r8.fst = r2.fst) then
            some false
          else
            bif !r8.snd == r2.snd then
              some false
            else
              some true
def s9 : Spec := ⟨false, [(.bool, false)], true, .bool, fun k xs => match xs with | [.slc 105 (.pair (.str) (.pair (.slice 202 (.slice 233 (.pair (.int .i64) (.pair (.int .i64) (.pair (.int .i64) (.int .i64)))))) (.pair (.pair (.int .i64) (.pair (.slice 3 (.int .i64)) (.slice 3 (.int .i64)))) (.pair (.int .i64) (.pair (.int .i64) (.int .i64)))))) aL, .str aName] => f9 k aL aName | _ => none⟩
def env71 : List (FuncId × Spec) := (9, s9) :: env70
theorem v9 (k : Nat) (aL : List (ByteArray × (List (List (Int × Int × Int × Int))) × (Int × (List (Int)) × List (Int)) × Int × Int × Int)) (aName : ByteArray) : runFn tiV (envOf env70) 64 [] (finT tiV true Go.Proofs.Try.f9.results.toList [(.bool, false)] (.bool)) k (bodyOf Go.Proofs.Try.f9) (initS 0 [.slc 105 (.pair (.str) (.pair (.slice 202 (.slice 233 (.pair (.int .i64) (.pair (.int .i64) (.pair (.int .i64) (.int .i64)))))) (.pair (.pair (.int .i64) (.pair (.slice 3 (.int .i64)) (.slice 3 (.int .i64)))) (.pair (.int .i64) (.pair (.int .i64) (.int .i64)))))) aL, .str aName]) = f9 k aL aName := by kernel_rfl
theorem m9 : Meets Go.Proofs.Try.prog 9 s9 := meets_of_run tiVOk env70_ok mo Go.Proofs.Try.func9 (body := bodyOf Go.Proofs.Try.f9) (by kernel_rfl) (N := 64) (by kernel_rfl) (hs := []) (by
  intro k xs r h
  unfold s9 at h
  dsimp only at h
  split at h
  · exact ⟨Nat.le_of_ble_eq_true rfl, (v9 k _ _).trans h⟩
  · cases h)
theorem env71_ok : EnvOk Go.Proofs.Try.prog (envOf env71) := envOf_cons m9 Go.Proofs.Try.func9 (by kernel_rfl) (by kernel_rfl) env70_ok

end Go.Proofs.YtbaeikcfchiiaaaE
