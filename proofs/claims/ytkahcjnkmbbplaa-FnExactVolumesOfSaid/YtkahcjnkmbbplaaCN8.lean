/- Functions, by the engine; printed. -/
import Derived.Test.YtkahcjnkmbbplaaCN7
set_option maxRecDepth 100000
set_option maxHeartbeats 4000000
set_option linter.unusedVariables false
namespace Go.Proofs.YtkahcjnkmbbplaaE
-- impl.isLeafKind
noncomputable def f65 (k : Nat) (kind : Int) : Option (Bool) :=
  (f91 k kind 1 3).bind fun r0 =>
  some r0
noncomputable def s65 : Spec := ⟨false, [(.bool, false)], true, .bool, fun k xs => match xs with | [.int .i64 kind] => f65 k kind | _ => none, false, none⟩
noncomputable def env85 : List (FuncId × Spec) := (65, s65) :: env84
theorem v65 (k : Nat) (kind : Int) : runFn ti (envOf env84) 5 [] (finT ti true Go.Proofs.Try.f65.results.toList [(.bool, false)] (.bool)) k (bodyOf Go.Proofs.Try.f65) (initS 0 [.int .i64 kind]) = f65 k kind := by kernel_rfl
theorem m65 : Meets Go.Proofs.Try.prog 65 s65 := meets_of_run tiOk env84_ok mo Go.Proofs.Try.func65 (body := bodyOf Go.Proofs.Try.f65) (by kernel_rfl) (N := 5) (by kernel_rfl) (hs := []) (by
  intro k xs r h
  unfold s65 at h
  dsimp only at h
  split at h
  · exact ⟨Nat.le_of_ble_eq_true rfl, (v65 k _).trans h⟩
  · cases h)
theorem env85_ok : EnvOk Go.Proofs.Try.prog (envOf env85) := envOf_cons m65 Go.Proofs.Try.func65 (by kernel_rfl) (by kernel_rfl) env84_ok

-- bits.Len64
noncomputable def f124 (k : Nat) (x : Int) : Option (Int) :=
  bif decide (4294967296 ≤ x) then
    bif decide (65536 ≤ Int.fdiv x (2 ^ min (Int.toNat 32) (IntKind.bits IntKind.u64))) then
      bif decide (256 ≤ Int.fdiv (Int.fdiv x (2 ^ min (Int.toNat 32) (IntKind.bits IntKind.u64))) (2 ^ min (Int.toNat 16) (IntKind.bits IntKind.u64))) then
        bif boundA (IntKind.wrap IntKind.u8 (Int.fdiv (Int.fdiv (Int.fdiv x (2 ^ min (Int.toNat 32) (IntKind.bits IntKind.u64))) (2 ^ min (Int.toNat 16) (IntKind.bits IntKind.u64))) (2 ^ min (Int.toNat 8) (IntKind.bits IntKind.u64)))) (ByteArray.size { data := List.toArray (List.append (List.append [0, 1, 2, 2, 3, 3, 3, 3, 4, 4, 4, 4, 4, 4, 4, 4, 5, 5, 5, 5, 5, 5, 5, 5, 5, 5, 5, 5, 5, 5, 5, 5, 6, 6, 6, 6, 6, 6, 6, 6, 6, 6, 6, 6, 6, 6, 6, 6, 6, 6, 6, 6, 6, 6, 6, 6, 6, 6, 6, 6, 6, 6, 6, 6] [7, 7, 7, 7, 7, 7, 7, 7, 7, 7, 7, 7, 7, 7, 7, 7, 7, 7, 7, 7, 7, 7, 7, 7, 7, 7, 7, 7, 7, 7, 7, 7, 7, 7, 7, 7, 7, 7, 7, 7, 7, 7, 7, 7, 7, 7, 7, 7, 7, 7, 7, 7, 7, 7, 7, 7, 7, 7, 7, 7, 7, 7, 7, 7]) (List.append [8, 8, 8, 8, 8, 8, 8, 8, 8, 8, 8, 8, 8, 8, 8, 8, 8, 8, 8, 8, 8, 8, 8, 8, 8, 8, 8, 8, 8, 8, 8, 8, 8, 8, 8, 8, 8, 8, 8, 8, 8, 8, 8, 8, 8, 8, 8, 8, 8, 8, 8, 8, 8, 8, 8, 8, 8, 8, 8, 8, 8, 8, 8, 8] [8, 8, 8, 8, 8, 8, 8, 8, 8, 8, 8, 8, 8, 8, 8, 8, 8, 8, 8, 8, 8, 8, 8, 8, 8, 8, 8, 8, 8, 8, 8, 8, 8, 8, 8, 8, 8, 8, 8, 8, 8, 8, 8, 8, 8, 8, 8, 8, 8, 8, 8, 8, 8, 8, 8, 8, 8, 8, 8, 8, 8, 8, 8, 8])) }) then
          some (IntKind.wrap IntKind.i64 (IntKind.wrap IntKind.i64 (IntKind.wrap IntKind.i64 (32 + 16) + 8) + IntKind.wrap IntKind.i64 (↑(UInt8.toNat (Array.getD (List.toArray (List.append (List.append [0, 1, 2, 2, 3, 3, 3, 3, 4, 4, 4, 4, 4, 4, 4, 4, 5, 5, 5, 5, 5, 5, 5, 5, 5, 5, 5, 5, 5, 5, 5, 5, 6, 6, 6, 6, 6, 6, 6, 6, 6, 6, 6, 6, 6, 6, 6, 6, 6, 6, 6, 6, 6, 6, 6, 6, 6, 6, 6, 6, 6, 6, 6, 6] [7, 7, 7, 7, 7, 7, 7, 7, 7, 7, 7, 7, 7, 7, 7, 7, 7, 7, 7, 7, 7, 7, 7, 7, 7, 7, 7, 7, 7, 7, 7, 7, 7, 7, 7, 7, 7, 7, 7, 7, 7, 7, 7, 7, 7, 7, 7, 7, 7, 7, 7, 7, 7, 7, 7, 7, 7, 7, 7, 7, 7, 7, 7, 7]) (List.append [8, 8, 8, 8, 8, 8, 8, 8, 8, 8, 8, 8, 8, 8, 8, 8, 8, 8, 8, 8, 8, 8, 8, 8, 8, 8, 8, 8, 8, 8, 8, 8, 8, 8, 8, 8, 8, 8, 8, 8, 8, 8, 8, 8, 8, 8, 8, 8, 8, 8, 8, 8, 8, 8, 8, 8, 8, 8, 8, 8, 8, 8, 8, 8] [8, 8, 8, 8, 8, 8, 8, 8, 8, 8, 8, 8, 8, 8, 8, 8, 8, 8, 8, 8, 8, 8, 8, 8, 8, 8, 8, 8, 8, 8, 8, 8, 8, 8, 8, 8, 8, 8, 8, 8, 8, 8, 8, 8, 8, 8, 8, 8, 8, 8, 8, 8, 8, 8, 8, 8, 8, 8, 8, 8, 8, 8, 8, 8]))) (Int.toNat (IntKind.wrap IntKind.u8 (Int.fdiv (Int.fdiv (Int.fdiv x (2 ^ min (Int.toNat 32) (IntKind.bits IntKind.u64))) (2 ^ min (Int.toNat 16) (IntKind.bits IntKind.u64))) (2 ^ min (Int.toNat 8) (IntKind.bits IntKind.u64))))) 0)) : Int)))
        else
          none
      else
        bif boundA (IntKind.wrap IntKind.u8 (Int.fdiv (Int.fdiv x (2 ^ min (Int.toNat 32) (IntKind.bits IntKind.u64))) (2 ^ min (Int.toNat 16) (IntKind.bits IntKind.u64)))) (ByteArray.size { data := List.toArray (List.append (List.append [0, 1, 2, 2, 3, 3, 3, 3, 4, 4, 4, 4, 4, 4, 4, 4, 5, 5, 5, 5, 5, 5, 5, 5, 5, 5, 5, 5, 5, 5, 5, 5, 6, 6, 6, 6, 6, 6, 6, 6, 6, 6, 6, 6, 6, 6, 6, 6, 6, 6, 6, 6, 6, 6, 6, 6, 6, 6, 6, 6, 6, 6, 6, 6] [7, 7, 7, 7, 7, 7, 7, 7, 7, 7, 7, 7, 7, 7, 7, 7, 7, 7, 7, 7, 7, 7, 7, 7, 7, 7, 7, 7, 7, 7, 7, 7, 7, 7, 7, 7, 7, 7, 7, 7, 7, 7, 7, 7, 7, 7, 7, 7, 7, 7, 7, 7, 7, 7, 7, 7, 7, 7, 7, 7, 7, 7, 7, 7]) (List.append [8, 8, 8, 8, 8, 8, 8, 8, 8, 8, 8, 8, 8, 8, 8, 8, 8, 8, 8, 8, 8, 8, 8, 8, 8, 8, 8, 8, 8, 8, 8, 8, 8, 8, 8, 8, 8, 8, 8, 8, 8, 8, 8, 8, 8, 8, 8, 8, 8, 8, 8, 8, 8, 8, 8, 8, 8, 8, 8, 8, 8, 8, 8, 8] [8, 8, 8, 8, 8, 8, 8, 8, 8, 8, 8, 8, 8, 8, 8, 8, 8, 8, 8, 8, 8, 8, 8, 8, 8, 8, 8, 8, 8, 8, 8, 8, 8, 8, 8, 8, 8, 8, 8, 8, 8, 8, 8, 8, 8, 8, 8, 8, 8, 8, 8, 8, 8, 8, 8, 8, 8, 8, 8, 8, 8, 8, 8, 8])) }) then
          some (IntKind.wrap IntKind.i64 (IntKind.wrap IntKind.i64 (32 + 16) + IntKind.wrap IntKind.i64 (↑(UInt8.toNat (Array.getD (List.toArray (List.append (List.append [0, 1, 2, 2, 3, 3, 3, 3, 4, 4, 4, 4, 4, 4, 4, 4, 5, 5, 5, 5, 5, 5, 5, 5, 5, 5, 5, 5, 5, 5, 5, 5, 6, 6, 6, 6, 6, 6, 6, 6, 6, 6, 6, 6, 6, 6, 6, 6, 6, 6, 6, 6, 6, 6, 6, 6, 6, 6, 6, 6, 6, 6, 6, 6] [7, 7, 7, 7, 7, 7, 7, 7, 7, 7, 7, 7, 7, 7, 7, 7, 7, 7, 7, 7, 7, 7, 7, 7, 7, 7, 7, 7, 7, 7, 7, 7, 7, 7, 7, 7, 7, 7, 7, 7, 7, 7, 7, 7, 7, 7, 7, 7, 7, 7, 7, 7, 7, 7, 7, 7, 7, 7, 7, 7, 7, 7, 7, 7]) (List.append [8, 8, 8, 8, 8, 8, 8, 8, 8, 8, 8, 8, 8, 8, 8, 8, 8, 8, 8, 8, 8, 8, 8, 8, 8, 8, 8, 8, 8, 8, 8, 8, 8, 8, 8, 8, 8, 8, 8, 8, 8, 8, 8, 8, 8, 8, 8, 8, 8, 8, 8, 8, 8, 8, 8, 8, 8, 8, 8, 8, 8, 8, 8, 8] [8, 8, 8, 8, 8, 8, 8, 8, 8, 8, 8, 8, 8, 8, 8, 8, 8, 8, 8, 8, 8, 8, 8, 8, 8, 8, 8, 8, 8, 8, 8, 8, 8, 8, 8, 8, 8, 8, 8, 8, 8, 8, 8, 8, 8, 8, 8, 8, 8, 8, 8, 8, 8, 8, 8, 8, 8, 8, 8, 8, 8, 8, 8, 8]))) (Int.toNat (IntKind.wrap IntKind.u8 (Int.fdiv (Int.fdiv x (2 ^ min (Int.toNat 32) (IntKind.bits IntKind.u64))) (2 ^ min (Int.toNat 16) (IntKind.bits IntKind.u64))))) 0)) : Int)))
        else
          none
    else
      bif decide (256 ≤ Int.fdiv x (2 ^ min (Int.toNat 32) (IntKind.bits IntKind.u64))) then
        bif boundA (IntKind.wrap IntKind.u8 (Int.fdiv (Int.fdiv x (2 ^ min (Int.toNat 32) (IntKind.bits IntKind.u64))) (2 ^ min (Int.toNat 8) (IntKind.bits IntKind.u64)))) (ByteArray.size { data := List.toArray (List.append (List.append [0, 1, 2, 2, 3, 3, 3, 3, 4, 4, 4, 4, 4, 4, 4, 4, 5, 5, 5, 5, 5, 5, 5, 5, 5, 5, 5, 5, 5, 5, 5, 5, 6, 6, 6, 6, 6, 6, 6, 6, 6, 6, 6, 6, 6, 6, 6, 6, 6, 6, 6, 6, 6, 6, 6, 6, 6, 6, 6, 6, 6, 6, 6, 6] [7, 7, 7, 7, 7, 7, 7, 7, 7, 7, 7, 7, 7, 7, 7, 7, 7, 7, 7, 7, 7, 7, 7, 7, 7, 7, 7, 7, 7, 7, 7, 7, 7, 7, 7, 7, 7, 7, 7, 7, 7, 7, 7, 7, 7, 7, 7, 7, 7, 7, 7, 7, 7, 7, 7, 7, 7, 7, 7, 7, 7, 7, 7, 7]) (List.append [8, 8, 8, 8, 8, 8, 8, 8, 8, 8, 8, 8, 8, 8, 8, 8, 8, 8, 8, 8, 8, 8, 8, 8, 8, 8, 8, 8, 8, 8, 8, 8, 8, 8, 8, 8, 8, 8, 8, 8, 8, 8, 8, 8, 8, 8, 8, 8, 8, 8, 8, 8, 8, 8, 8, 8, 8, 8, 8, 8, 8, 8, 8, 8] [8, 8, 8, 8, 8, 8, 8, 8, 8, 8, 8, 8, 8, 8, 8, 8, 8, 8, 8, 8, 8, 8, 8, 8, 8, 8, 8, 8, 8, 8, 8, 8, 8, 8, 8, 8, 8, 8, 8, 8, 8, 8, 8, 8, 8, 8, 8, 8, 8, 8, 8, 8, 8, 8, 8, 8, 8, 8, 8, 8, 8, 8, 8, 8])) }) then
          some (IntKind.wrap IntKind.i64 (IntKind.wrap IntKind.i64 (32 + 8) + IntKind.wrap IntKind.i64 (↑(UInt8.toNat (Array.getD (List.toArray (List.append (List.append [0, 1, 2, 2, 3, 3, 3, 3, 4, 4, 4, 4, 4, 4, 4, 4, 5, 5, 5, 5, 5, 5, 5, 5, 5, 5, 5, 5, 5, 5, 5, 5, 6, 6, 6, 6, 6, 6, 6, 6, 6, 6, 6, 6, 6, 6, 6, 6, 6, 6, 6, 6, 6, 6, 6, 6, 6, 6, 6, 6, 6, 6, 6, 6] [7, 7, 7, 7, 7, 7, 7, 7, 7, 7, 7, 7, 7, 7, 7, 7, 7, 7, 7, 7, 7, 7, 7, 7, 7, 7, 7, 7, 7, 7, 7, 7, 7, 7, 7, 7, 7, 7, 7, 7, 7, 7, 7, 7, 7, 7, 7, 7, 7, 7, 7, 7, 7, 7, 7, 7, 7, 7, 7, 7, 7, 7, 7, 7]) (List.append [8, 8, 8, 8, 8, 8, 8, 8, 8, 8, 8, 8, 8, 8, 8, 8, 8, 8, 8, 8, 8, 8, 8, 8, 8, 8, 8, 8, 8, 8, 8, 8, 8, 8, 8, 8, 8, 8, 8, 8, 8, 8, 8, 8, 8, 8, 8, 8, 8, 8, 8, 8, 8, 8, 8, 8, 8, 8, 8, 8, 8, 8, 8, 8] [8, 8, 8, 8, 8, 8, 8, 8, 8, 8, 8, 8, 8, 8, 8, 8, 8, 8, 8, 8, 8, 8, 8, 8, 8, 8, 8, 8, 8, 8, 8, 8, 8, 8, 8, 8, 8, 8, 8, 8, 8, 8, 8, 8, 8, 8, 8, 8, 8, 8, 8, 8, 8, 8, 8, 8, 8, 8, 8, 8, 8, 8, 8, 8]))) (Int.toNat (IntKind.wrap IntKind.u8 (Int.fdiv (Int.fdiv x (2 ^ min (Int.toNat 32) (IntKind.bits IntKind.u64))) (2 ^ min (Int.toNat 8) (IntKind.bits IntKind.u64))))) 0)) : Int)))
        else
          none
      else
        bif boundA (IntKind.wrap IntKind.u8 (Int.fdiv x (2 ^ min (Int.toNat 32) (IntKind.bits IntKind.u64)))) (ByteArray.size { data := List.toArray (List.append (List.append [0, 1, 2, 2, 3, 3, 3, 3, 4, 4, 4, 4, 4, 4, 4, 4, 5, 5, 5, 5, 5, 5, 5, 5, 5, 5, 5, 5, 5, 5, 5, 5, 6, 6, 6, 6, 6, 6, 6, 6, 6, 6, 6, 6, 6, 6, 6, 6, 6, 6, 6, 6, 6, 6, 6, 6, 6, 6, 6, 6, 6, 6, 6, 6] [7, 7, 7, 7, 7, 7, 7, 7, 7, 7, 7, 7, 7, 7, 7, 7, 7, 7, 7, 7, 7, 7, 7, 7, 7, 7, 7, 7, 7, 7, 7, 7, 7, 7, 7, 7, 7, 7, 7, 7, 7, 7, 7, 7, 7, 7, 7, 7, 7, 7, 7, 7, 7, 7, 7, 7, 7, 7, 7, 7, 7, 7, 7, 7]) (List.append [8, 8, 8, 8, 8, 8, 8, 8, 8, 8, 8, 8, 8, 8, 8, 8, 8, 8, 8, 8, 8, 8, 8, 8, 8, 8, 8, 8, 8, 8, 8, 8, 8, 8, 8, 8, 8, 8, 8, 8, 8, 8, 8, 8, 8, 8, 8, 8, 8, 8, 8, 8, 8, 8, 8, 8, 8, 8, 8, 8, 8, 8, 8, 8] [8, 8, 8, 8, 8, 8, 8, 8, 8, 8, 8, 8, 8, 8, 8, 8, 8, 8, 8, 8, 8, 8, 8, 8, 8, 8, 8, 8, 8, 8, 8, 8, 8, 8, 8, 8, 8, 8, 8, 8, 8, 8, 8, 8, 8, 8, 8, 8, 8, 8, 8, 8, 8, 8, 8, 8, 8, 8, 8, 8, 8, 8, 8, 8])) }) then
          some (IntKind.wrap IntKind.i64 (32 + IntKind.wrap IntKind.i64 (↑(UInt8.toNat (Array.getD (List.toArray (List.append (List.append [0, 1, 2, 2, 3, 3, 3, 3, 4, 4, 4, 4, 4, 4, 4, 4, 5, 5, 5, 5, 5, 5, 5, 5, 5, 5, 5, 5, 5, 5, 5, 5, 6, 6, 6, 6, 6, 6, 6, 6, 6, 6, 6, 6, 6, 6, 6, 6, 6, 6, 6, 6, 6, 6, 6, 6, 6, 6, 6, 6, 6, 6, 6, 6] [7, 7, 7, 7, 7, 7, 7, 7, 7, 7, 7, 7, 7, 7, 7, 7, 7, 7, 7, 7, 7, 7, 7, 7, 7, 7, 7, 7, 7, 7, 7, 7, 7, 7, 7, 7, 7, 7, 7, 7, 7, 7, 7, 7, 7, 7, 7, 7, 7, 7, 7, 7, 7, 7, 7, 7, 7, 7, 7, 7, 7, 7, 7, 7]) (List.append [8, 8, 8, 8, 8, 8, 8, 8, 8, 8, 8, 8, 8, 8, 8, 8, 8, 8, 8, 8, 8, 8, 8, 8, 8, 8, 8, 8, 8, 8, 8, 8, 8, 8, 8, 8, 8, 8, 8, 8, 8, 8, 8, 8, 8, 8, 8, 8, 8, 8, 8, 8, 8, 8, 8, 8, 8, 8, 8, 8, 8, 8, 8, 8] [8, 8, 8, 8, 8, 8, 8, 8, 8, 8, 8, 8, 8, 8, 8, 8, 8, 8, 8, 8, 8, 8, 8, 8, 8, 8, 8, 8, 8, 8, 8, 8, 8, 8, 8, 8, 8, 8, 8, 8, 8, 8, 8, 8, 8, 8, 8, 8, 8, 8, 8, 8, 8, 8, 8, 8, 8, 8, 8, 8, 8, 8, 8, 8]))) (Int.toNat (IntKind.wrap IntKind.u8 (Int.fdiv x (2 ^ min (Int.toNat 32) (IntKind.bits IntKind.u64))))) 0)) : Int)))
        else
          none
  else
    bif decide (65536 ≤ x) then
      bif decide (256 ≤ Int.fdiv x (2 ^ min (Int.toNat 16) (IntKind.bits IntKind.u64))) then
        bif boundA (IntKind.wrap IntKind.u8 (Int.fdiv (Int.fdiv x (2 ^ min (Int.toNat 16) (IntKind.bits IntKind.u64))) (2 ^ min (Int.toNat 8) (IntKind.bits IntKind.u64)))) (ByteArray.size { data := List.toArray (List.append (List.append [0, 1, 2, 2, 3, 3, 3, 3, 4, 4, 4, 4, 4, 4, 4, 4, 5, 5, 5, 5, 5, 5, 5, 5, 5, 5, 5, 5, 5, 5, 5, 5, 6, 6, 6, 6, 6, 6, 6, 6, 6, 6, 6, 6, 6, 6, 6, 6, 6, 6, 6, 6, 6, 6, 6, 6, 6, 6, 6, 6, 6, 6, 6, 6] [7, 7, 7, 7, 7, 7, 7, 7, 7, 7, 7, 7, 7, 7, 7, 7, 7, 7, 7, 7, 7, 7, 7, 7, 7, 7, 7, 7, 7, 7, 7, 7, 7, 7, 7, 7, 7, 7, 7, 7, 7, 7, 7, 7, 7, 7, 7, 7, 7, 7, 7, 7, 7, 7, 7, 7, 7, 7, 7, 7, 7, 7, 7, 7]) (List.append [8, 8, 8, 8, 8, 8, 8, 8, 8, 8, 8, 8, 8, 8, 8, 8, 8, 8, 8, 8, 8, 8, 8, 8, 8, 8, 8, 8, 8, 8, 8, 8, 8, 8, 8, 8, 8, 8, 8, 8, 8, 8, 8, 8, 8, 8, 8, 8, 8, 8, 8, 8, 8, 8, 8, 8, 8, 8, 8, 8, 8, 8, 8, 8] [8, 8, 8, 8, 8, 8, 8, 8, 8, 8, 8, 8, 8, 8, 8, 8, 8, 8, 8, 8, 8, 8, 8, 8, 8, 8, 8, 8, 8, 8, 8, 8, 8, 8, 8, 8, 8, 8, 8, 8, 8, 8, 8, 8, 8, 8, 8, 8, 8, 8, 8, 8, 8, 8, 8, 8, 8, 8, 8, 8, 8, 8, 8, 8])) }) then
          some (IntKind.wrap IntKind.i64 (IntKind.wrap IntKind.i64 (IntKind.wrap IntKind.i64 (0 + 16) + 8) + IntKind.wrap IntKind.i64 (↑(UInt8.toNat (Array.getD (List.toArray (List.append (List.append [0, 1, 2, 2, 3, 3, 3, 3, 4, 4, 4, 4, 4, 4, 4, 4, 5, 5, 5, 5, 5, 5, 5, 5, 5, 5, 5, 5, 5, 5, 5, 5, 6, 6, 6, 6, 6, 6, 6, 6, 6, 6, 6, 6, 6, 6, 6, 6, 6, 6, 6, 6, 6, 6, 6, 6, 6, 6, 6, 6, 6, 6, 6, 6] [7, 7, 7, 7, 7, 7, 7, 7, 7, 7, 7, 7, 7, 7, 7, 7, 7, 7, 7, 7, 7, 7, 7, 7, 7, 7, 7, 7, 7, 7, 7, 7, 7, 7, 7, 7, 7, 7, 7, 7, 7, 7, 7, 7, 7, 7, 7, 7, 7, 7, 7, 7, 7, 7, 7, 7, 7, 7, 7, 7, 7, 7, 7, 7]) (List.append [8, 8, 8, 8, 8, 8, 8, 8, 8, 8, 8, 8, 8, 8, 8, 8, 8, 8, 8, 8, 8, 8, 8, 8, 8, 8, 8, 8, 8, 8, 8, 8, 8, 8, 8, 8, 8, 8, 8, 8, 8, 8, 8, 8, 8, 8, 8, 8, 8, 8, 8, 8, 8, 8, 8, 8, 8, 8, 8, 8, 8, 8, 8, 8] [8, 8, 8, 8, 8, 8, 8, 8, 8, 8, 8, 8, 8, 8, 8, 8, 8, 8, 8, 8, 8, 8, 8, 8, 8, 8, 8, 8, 8, 8, 8, 8, 8, 8, 8, 8, 8, 8, 8, 8, 8, 8, 8, 8, 8, 8, 8, 8, 8, 8, 8, 8, 8, 8, 8, 8, 8, 8, 8, 8, 8, 8, 8, 8]))) (Int.toNat (IntKind.wrap IntKind.u8 (Int.fdiv (Int.fdiv x (2 ^ min (Int.toNat 16) (IntKind.bits IntKind.u64))) (2 ^ min (Int.toNat 8) (IntKind.bits IntKind.u64))))) 0)) : Int)))
        else
          none
      else
        bif boundA (IntKind.wrap IntKind.u8 (Int.fdiv x (2 ^ min (Int.toNat 16) (IntKind.bits IntKind.u64)))) (ByteArray.size { data := List.toArray (List.append (List.append [0, 1, 2, 2, 3, 3, 3, 3, 4, 4, 4, 4, 4, 4, 4, 4, 5, 5, 5, 5, 5, 5, 5, 5, 5, 5, 5, 5, 5, 5, 5, 5, 6, 6, 6, 6, 6, 6, 6, 6, 6, 6, 6, 6, 6, 6, 6, 6, 6, 6, 6, 6, 6, 6, 6, 6, 6, 6, 6, 6, 6, 6, 6, 6] [7, 7, 7, 7, 7, 7, 7, 7, 7, 7, 7, 7, 7, 7, 7, 7, 7, 7, 7, 7, 7, 7, 7, 7, 7, 7, 7, 7, 7, 7, 7, 7, 7, 7, 7, 7, 7, 7, 7, 7, 7, 7, 7, 7, 7, 7, 7, 7, 7, 7, 7, 7, 7, 7, 7, 7, 7, 7, 7, 7, 7, 7, 7, 7]) (List.append [8, 8, 8, 8, 8, 8, 8, 8, 8, 8, 8, 8, 8, 8, 8, 8, 8, 8, 8, 8, 8, 8, 8, 8, 8, 8, 8, 8, 8, 8, 8, 8, 8, 8, 8, 8, 8, 8, 8, 8, 8, 8, 8, 8, 8, 8, 8, 8, 8, 8, 8, 8, 8, 8, 8, 8, 8, 8, 8, 8, 8, 8, 8, 8] [8, 8, 8, 8, 8, 8, 8, 8, 8, 8, 8, 8, 8, 8, 8, 8, 8, 8, 8, 8, 8, 8, 8, 8, 8, 8, 8, 8, 8, 8, 8, 8, 8, 8, 8, 8, 8, 8, 8, 8, 8, 8, 8, 8, 8, 8, 8, 8, 8, 8, 8, 8, 8, 8, 8, 8, 8, 8, 8, 8, 8, 8, 8, 8])) }) then
          some (IntKind.wrap IntKind.i64 (IntKind.wrap IntKind.i64 (0 + 16) + IntKind.wrap IntKind.i64 (↑(UInt8.toNat (Array.getD (List.toArray (List.append (List.append [0, 1, 2, 2, 3, 3, 3, 3, 4, 4, 4, 4, 4, 4, 4, 4, 5, 5, 5, 5, 5, 5, 5, 5, 5, 5, 5, 5, 5, 5, 5, 5, 6, 6, 6, 6, 6, 6, 6, 6, 6, 6, 6, 6, 6, 6, 6, 6, 6, 6, 6, 6, 6, 6, 6, 6, 6, 6, 6, 6, 6, 6, 6, 6] [7, 7, 7, 7, 7, 7, 7, 7, 7, 7, 7, 7, 7, 7, 7, 7, 7, 7, 7, 7, 7, 7, 7, 7, 7, 7, 7, 7, 7, 7, 7, 7, 7, 7, 7, 7, 7, 7, 7, 7, 7, 7, 7, 7, 7, 7, 7, 7, 7, 7, 7, 7, 7, 7, 7, 7, 7, 7, 7, 7, 7, 7, 7, 7]) (List.append [8, 8, 8, 8, 8, 8, 8, 8, 8, 8, 8, 8, 8, 8, 8, 8, 8, 8, 8, 8, 8, 8, 8, 8, 8, 8, 8, 8, 8, 8, 8, 8, 8, 8, 8, 8, 8, 8, 8, 8, 8, 8, 8, 8, 8, 8, 8, 8, 8, 8, 8, 8, 8, 8, 8, 8, 8, 8, 8, 8, 8, 8, 8, 8] [8, 8, 8, 8, 8, 8, 8, 8, 8, 8, 8, 8, 8, 8, 8, 8, 8, 8, 8, 8, 8, 8, 8, 8, 8, 8, 8, 8, 8, 8, 8, 8, 8, 8, 8, 8, 8, 8, 8, 8, 8, 8, 8, 8, 8, 8, 8, 8, 8, 8, 8, 8, 8, 8, 8, 8, 8, 8, 8, 8, 8, 8, 8, 8]))) (Int.toNat (IntKind.wrap IntKind.u8 (Int.fdiv x (2 ^ min (Int.toNat 16) (IntKind.bits IntKind.u64))))) 0)) : Int)))
        else
          none
    else
      bif decide (256 ≤ x) then
        bif boundA (IntKind.wrap IntKind.u8 (Int.fdiv x (2 ^ min (Int.toNat 8) (IntKind.bits IntKind.u64)))) (ByteArray.size { data := List.toArray (List.append (List.append [0, 1, 2, 2, 3, 3, 3, 3, 4, 4, 4, 4, 4, 4, 4, 4, 5, 5, 5, 5, 5, 5, 5, 5, 5, 5, 5, 5, 5, 5, 5, 5, 6, 6, 6, 6, 6, 6, 6, 6, 6, 6, 6, 6, 6, 6, 6, 6, 6, 6, 6, 6, 6, 6, 6, 6, 6, 6, 6, 6, 6, 6, 6, 6] [7, 7, 7, 7, 7, 7, 7, 7, 7, 7, 7, 7, 7, 7, 7, 7, 7, 7, 7, 7, 7, 7, 7, 7, 7, 7, 7, 7, 7, 7, 7, 7, 7, 7, 7, 7, 7, 7, 7, 7, 7, 7, 7, 7, 7, 7, 7, 7, 7, 7, 7, 7, 7, 7, 7, 7, 7, 7, 7, 7, 7, 7, 7, 7]) (List.append [8, 8, 8, 8, 8, 8, 8, 8, 8, 8, 8, 8, 8, 8, 8, 8, 8, 8, 8, 8, 8, 8, 8, 8, 8, 8, 8, 8, 8, 8, 8, 8, 8, 8, 8, 8, 8, 8, 8, 8, 8, 8, 8, 8, 8, 8, 8, 8, 8, 8, 8, 8, 8, 8, 8, 8, 8, 8, 8, 8, 8, 8, 8, 8] [8, 8, 8, 8, 8, 8, 8, 8, 8, 8, 8, 8, 8, 8, 8, 8, 8, 8, 8, 8, 8, 8, 8, 8, 8, 8, 8, 8, 8, 8, 8, 8, 8, 8, 8, 8, 8, 8, 8, 8, 8, 8, 8, 8, 8, 8, 8, 8, 8, 8, 8, 8, 8, 8, 8, 8, 8, 8, 8, 8, 8, 8, 8, 8])) }) then
          some (IntKind.wrap IntKind.i64 (IntKind.wrap IntKind.i64 (0 + 8) + IntKind.wrap IntKind.i64 (↑(UInt8.toNat (Array.getD (List.toArray (List.append (List.append [0, 1, 2, 2, 3, 3, 3, 3, 4, 4, 4, 4, 4, 4, 4, 4, 5, 5, 5, 5, 5, 5, 5, 5, 5, 5, 5, 5, 5, 5, 5, 5, 6, 6, 6, 6, 6, 6, 6, 6, 6, 6, 6, 6, 6, 6, 6, 6, 6, 6, 6, 6, 6, 6, 6, 6, 6, 6, 6, 6, 6, 6, 6, 6] [7, 7, 7, 7, 7, 7, 7, 7, 7, 7, 7, 7, 7, 7, 7, 7, 7, 7, 7, 7, 7, 7, 7, 7, 7, 7, 7, 7, 7, 7, 7, 7, 7, 7, 7, 7, 7, 7, 7, 7, 7, 7, 7, 7, 7, 7, 7, 7, 7, 7, 7, 7, 7, 7, 7, 7, 7, 7, 7, 7, 7, 7, 7, 7]) (List.append [8, 8, 8, 8, 8, 8, 8, 8, 8, 8, 8, 8, 8, 8, 8, 8, 8, 8, 8, 8, 8, 8, 8, 8, 8, 8, 8, 8, 8, 8, 8, 8, 8, 8, 8, 8, 8, 8, 8, 8, 8, 8, 8, 8, 8, 8, 8, 8, 8, 8, 8, 8, 8, 8, 8, 8, 8, 8, 8, 8, 8, 8, 8, 8] [8, 8, 8, 8, 8, 8, 8, 8, 8, 8, 8, 8, 8, 8, 8, 8, 8, 8, 8, 8, 8, 8, 8, 8, 8, 8, 8, 8, 8, 8, 8, 8, 8, 8, 8, 8, 8, 8, 8, 8, 8, 8, 8, 8, 8, 8, 8, 8, 8, 8, 8, 8, 8, 8, 8, 8, 8, 8, 8, 8, 8, 8, 8, 8]))) (Int.toNat (IntKind.wrap IntKind.u8 (Int.fdiv x (2 ^ min (Int.toNat 8) (IntKind.bits IntKind.u64))))) 0)) : Int)))
        else
          none
      else
        bif boundA (IntKind.wrap IntKind.u8 x) (ByteArray.size { data := List.toArray (List.append (List.append [0, 1, 2, 2, 3, 3, 3, 3, 4, 4, 4, 4, 4, 4, 4, 4, 5, 5, 5, 5, 5, 5, 5, 5, 5, 5, 5, 5, 5, 5, 5, 5, 6, 6, 6, 6, 6, 6, 6, 6, 6, 6, 6, 6, 6, 6, 6, 6, 6, 6, 6, 6, 6, 6, 6, 6, 6, 6, 6, 6, 6, 6, 6, 6] [7, 7, 7, 7, 7, 7, 7, 7, 7, 7, 7, 7, 7, 7, 7, 7, 7, 7, 7, 7, 7, 7, 7, 7, 7, 7, 7, 7, 7, 7, 7, 7, 7, 7, 7, 7, 7, 7, 7, 7, 7, 7, 7, 7, 7, 7, 7, 7, 7, 7, 7, 7, 7, 7, 7, 7, 7, 7, 7, 7, 7, 7, 7, 7]) (List.append [8, 8, 8, 8, 8, 8, 8, 8, 8, 8, 8, 8, 8, 8, 8, 8, 8, 8, 8, 8, 8, 8, 8, 8, 8, 8, 8, 8, 8, 8, 8, 8, 8, 8, 8, 8, 8, 8, 8, 8, 8, 8, 8, 8, 8, 8, 8, 8, 8, 8, 8, 8, 8, 8, 8, 8, 8, 8, 8, 8, 8, 8, 8, 8] [8, 8, 8, 8, 8, 8, 8, 8, 8, 8, 8, 8, 8, 8, 8, 8, 8, 8, 8, 8, 8, 8, 8, 8, 8, 8, 8, 8, 8, 8, 8, 8, 8, 8, 8, 8, 8, 8, 8, 8, 8, 8, 8, 8, 8, 8, 8, 8, 8, 8, 8, 8, 8, 8, 8, 8, 8, 8, 8, 8, 8, 8, 8, 8])) }) then
          some (IntKind.wrap IntKind.i64 (0 + IntKind.wrap IntKind.i64 (↑(UInt8.toNat (Array.getD (List.toArray (List.append (List.append [0, 1, 2, 2, 3, 3, 3, 3, 4, 4, 4, 4, 4, 4, 4, 4, 5, 5, 5, 5, 5, 5, 5, 5, 5, 5, 5, 5, 5, 5, 5, 5, 6, 6, 6, 6, 6, 6, 6, 6, 6, 6, 6, 6, 6, 6, 6, 6, 6, 6, 6, 6, 6, 6, 6, 6, 6, 6, 6, 6, 6, 6, 6, 6] [7, 7, 7, 7, 7, 7, 7, 7, 7, 7, 7, 7, 7, 7, 7, 7, 7, 7, 7, 7, 7, 7, 7, 7, 7, 7, 7, 7, 7, 7, 7, 7, 7, 7, 7, 7, 7, 7, 7, 7, 7, 7, 7, 7, 7, 7, 7, 7, 7, 7, 7, 7, 7, 7, 7, 7, 7, 7, 7, 7, 7, 7, 7, 7]) (List.append [8, 8, 8, 8, 8, 8, 8, 8, 8, 8, 8, 8, 8, 8, 8, 8, 8, 8, 8, 8, 8, 8, 8, 8, 8, 8, 8, 8, 8, 8, 8, 8, 8, 8, 8, 8, 8, 8, 8, 8, 8, 8, 8, 8, 8, 8, 8, 8, 8, 8, 8, 8, 8, 8, 8, 8, 8, 8, 8, 8, 8, 8, 8, 8] [8, 8, 8, 8, 8, 8, 8, 8, 8, 8, 8, 8, 8, 8, 8, 8, 8, 8, 8, 8, 8, 8, 8, 8, 8, 8, 8, 8, 8, 8, 8, 8, 8, 8, 8, 8, 8, 8, 8, 8, 8, 8, 8, 8, 8, 8, 8, 8, 8, 8, 8, 8, 8, 8, 8, 8, 8, 8, 8, 8, 8, 8, 8, 8]))) (Int.toNat (IntKind.wrap IntKind.u8 x)) 0)) : Int)))
        else
          none
noncomputable def s124 : Spec := ⟨false, [(.int .i64, false)], true, .int .i64, fun k xs => match xs with | [.int .u64 x] => f124 k x | _ => none, false, none⟩
noncomputable def env86 : List (FuncId × Spec) := (124, s124) :: env85
theorem v124 (k : Nat) (x : Int) : runFn ti (envOf env85) 25 [] (finT ti true Go.Proofs.Try.f124.results.toList [(.int .i64, false)] (.int .i64)) k (bodyOf Go.Proofs.Try.f124) (initS 0 [.int .u64 x]) = f124 k x := by kernel_rfl
theorem m124 : Meets Go.Proofs.Try.prog 124 s124 := meets_of_run tiOk env85_ok mo Go.Proofs.Try.func124 (body := bodyOf Go.Proofs.Try.f124) (by kernel_rfl) (N := 25) (by kernel_rfl) (hs := []) (by
  intro k xs r h
  unfold s124 at h
  dsimp only at h
  split at h
  · exact ⟨Nat.le_of_ble_eq_true rfl, (v124 k _).trans h⟩
  · cases h)
theorem env86_ok : EnvOk Go.Proofs.Try.prog (envOf env86) := envOf_cons m124 Go.Proofs.Try.func124 (by kernel_rfl) (by kernel_rfl) env85_ok

-- bits.LeadingZeros64
noncomputable def f114 (k : Nat) (x : Int) : Option (Int) :=
  (f124 k x).bind fun r0 =>
  some (IntKind.wrap IntKind.i64 (64 - r0))
noncomputable def s114 : Spec := ⟨false, [(.int .i64, false)], true, .int .i64, fun k xs => match xs with | [.int .u64 x] => f114 k x | _ => none, false, none⟩
noncomputable def env87 : List (FuncId × Spec) := (114, s114) :: env86
theorem v114 (k : Nat) (x : Int) : runFn ti (envOf env86) 6 [] (finT ti true Go.Proofs.Try.f114.results.toList [(.int .i64, false)] (.int .i64)) k (bodyOf Go.Proofs.Try.f114) (initS 0 [.int .u64 x]) = f114 k x := by kernel_rfl
theorem m114 : Meets Go.Proofs.Try.prog 114 s114 := meets_of_run tiOk env86_ok mo Go.Proofs.Try.func114 (body := bodyOf Go.Proofs.Try.f114) (by kernel_rfl) (N := 6) (by kernel_rfl) (hs := []) (by
  intro k xs r h
  unfold s114 at h
  dsimp only at h
  split at h
  · exact ⟨Nat.le_of_ble_eq_true rfl, (v114 k _).trans h⟩
  · cases h)
theorem env87_ok : EnvOk Go.Proofs.Try.prog (envOf env87) := envOf_cons m114 Go.Proofs.Try.func114 (by kernel_rfl) (by kernel_rfl) env86_ok

-- bits.Div64
def h96 : Hints := [(1017, .lab [(2, .one (.v)), (8, .one (.v)), (9, .one (.v)), (10, .one (.v)), (11, .one (.v)), (13, .one (.v)), (14, .one (.v)), (15, .one (.v)), (16, .one (.v))]), (1024, .lab [(2, .one (.v)), (8, .one (.v)), (9, .one (.v)), (10, .one (.v)), (14, .one (.v)), (15, .one (.v)), (16, .one (.v)), (17, .one (.v)), (18, .one (.v))]), (3, .lab [(0, .one (.v)), (1, .one (.v)), (2, .one (.v))]), (5, .lab [(0, .one (.v)), (1, .one (.v)), (2, .one (.v))]), (21, .lab [(2, .one (.v)), (8, .one (.v)), (9, .one (.v)), (10, .one (.v)), (11, .one (.v)), (13, .one (.v)), (14, .one (.v)), (15, .one (.v))])]
noncomputable def F96_1017 (k : Nat) (rec1017 : Int → Int → Int → Int → Int → Int → Int → Int → Int → Option (Int × Int)) (rec1024 : Int → Int → Int → Int → Int → Int → Int → Int → Int → Option (Int × Int)) (rec3 : Int → Int → Int → Option (Int × Int)) (rec5 : Int → Int → Int → Option (Int × Int)) (rec21 : Int → Int → Int → Int → Int → Int → Int → Int → Option (Int × Int)) (s : Int) (r : Int) (r_9 : Int) (a : Int) (y : Int) (t13 : Int) (t14 : Int) (t15 : Int) (t16 : Int) : Option (Int × Int) :=
  bif decide (4294967296 ≤ t15) then
    bif decide (4294967296 ≤ IntKind.wrap IntKind.u64 (t16 + r_9)) then
      rec21 s r r_9 a y t13 t14 (IntKind.wrap IntKind.u64 (t15 - 1))
    else
      rec1017 s r r_9 a y t13 t14 (IntKind.wrap IntKind.u64 (t15 - 1)) (IntKind.wrap IntKind.u64 (t16 + r_9))
  else
    bif decide (IntKind.wrap IntKind.u64 (IntKind.wrap IntKind.u64 (4294967296 * t16) + t13) < IntKind.wrap IntKind.u64 (t15 * a)) then
      bif decide (4294967296 ≤ IntKind.wrap IntKind.u64 (t16 + r_9)) then
        rec21 s r r_9 a y t13 t14 (IntKind.wrap IntKind.u64 (t15 - 1))
      else
        rec1017 s r r_9 a y t13 t14 (IntKind.wrap IntKind.u64 (t15 - 1)) (IntKind.wrap IntKind.u64 (t16 + r_9))
    else
      rec21 s r r_9 a y t13 t14 t15
noncomputable def F96_1024 (k : Nat) (rec1017 : Int → Int → Int → Int → Int → Int → Int → Int → Int → Option (Int × Int)) (rec1024 : Int → Int → Int → Int → Int → Int → Int → Int → Int → Option (Int × Int)) (rec3 : Int → Int → Int → Option (Int × Int)) (rec5 : Int → Int → Int → Option (Int × Int)) (rec21 : Int → Int → Int → Int → Int → Int → Int → Int → Option (Int × Int)) (s : Int) (r : Int) (r_9 : Int) (a : Int) (t14 : Int) (t15 : Int) (t16 : Int) (t17 : Int) (t18 : Int) : Option (Int × Int) :=
  bif decide (4294967296 ≤ t18) then
    bif decide (4294967296 ≤ IntKind.wrap IntKind.u64 (t16 + r_9)) then
      bif !decide (r < 0) then
        some ((IntKind.wrap IntKind.u64 (IntKind.wrap IntKind.u64 (t15 * 4294967296) + IntKind.wrap IntKind.u64 (t18 - 1)), Int.fdiv (IntKind.wrap IntKind.u64 (IntKind.wrap IntKind.u64 (IntKind.wrap IntKind.u64 (t17 * 4294967296) + t14) - IntKind.wrap IntKind.u64 (IntKind.wrap IntKind.u64 (t18 - 1) * s))) (2 ^ min (Int.toNat r) (IntKind.bits IntKind.u64))))
      else
        none
    else
      rec1024 s r r_9 a t14 t15 (IntKind.wrap IntKind.u64 (t16 + r_9)) t17 (IntKind.wrap IntKind.u64 (t18 - 1))
  else
    bif decide (IntKind.wrap IntKind.u64 (IntKind.wrap IntKind.u64 (4294967296 * t16) + t14) < IntKind.wrap IntKind.u64 (t18 * a)) then
      bif decide (4294967296 ≤ IntKind.wrap IntKind.u64 (t16 + r_9)) then
        bif !decide (r < 0) then
          some ((IntKind.wrap IntKind.u64 (IntKind.wrap IntKind.u64 (t15 * 4294967296) + IntKind.wrap IntKind.u64 (t18 - 1)), Int.fdiv (IntKind.wrap IntKind.u64 (IntKind.wrap IntKind.u64 (IntKind.wrap IntKind.u64 (t17 * 4294967296) + t14) - IntKind.wrap IntKind.u64 (IntKind.wrap IntKind.u64 (t18 - 1) * s))) (2 ^ min (Int.toNat r) (IntKind.bits IntKind.u64))))
        else
          none
      else
        rec1024 s r r_9 a t14 t15 (IntKind.wrap IntKind.u64 (t16 + r_9)) t17 (IntKind.wrap IntKind.u64 (t18 - 1))
    else
      bif !decide (r < 0) then
        some ((IntKind.wrap IntKind.u64 (IntKind.wrap IntKind.u64 (t15 * 4294967296) + t18), Int.fdiv (IntKind.wrap IntKind.u64 (IntKind.wrap IntKind.u64 (IntKind.wrap IntKind.u64 (t17 * 4294967296) + t14) - IntKind.wrap IntKind.u64 (t18 * s))) (2 ^ min (Int.toNat r) (IntKind.bits IntKind.u64))))
      else
        none
noncomputable def F96_3 (k : Nat) (rec1017 : Int → Int → Int → Int → Int → Int → Int → Int → Int → Option (Int × Int)) (rec1024 : Int → Int → Int → Int → Int → Int → Int → Int → Int → Option (Int × Int)) (rec3 : Int → Int → Int → Option (Int × Int)) (rec5 : Int → Int → Int → Option (Int × Int)) (rec21 : Int → Int → Int → Int → Int → Int → Int → Int → Option (Int × Int)) (L : Int) (i : Int) (s : Int) : Option (Int × Int) :=
  bif decide (s ≤ L) then
    none
  else
    rec5 L i s
noncomputable def F96_5 (k : Nat) (rec1017 : Int → Int → Int → Int → Int → Int → Int → Int → Int → Option (Int × Int)) (rec1024 : Int → Int → Int → Int → Int → Int → Int → Int → Int → Option (Int × Int)) (rec3 : Int → Int → Int → Option (Int × Int)) (rec5 : Int → Int → Int → Option (Int × Int)) (rec21 : Int → Int → Int → Int → Int → Int → Int → Int → Option (Int × Int)) (L : Int) (i : Int) (s : Int) : Option (Int × Int) :=
  bif decide (L = 0) then
    bif !decide (s = 0) then
      bif !decide (s = 0) then
        some ((IntKind.wrap IntKind.u64 (Int.tdiv i s), Int.tmod i s))
      else
        none
    else
      none
  else
    (f114 k s).bind fun r0 =>
    bif !decide (IntKind.wrap IntKind.u64 r0 < 0) then
      bif !decide (IntKind.wrap IntKind.u64 r0 < 0) then
        bif !decide (IntKind.wrap IntKind.u64 (64 - IntKind.wrap IntKind.u64 r0) < 0) then
          bif !decide (IntKind.wrap IntKind.u64 r0 < 0) then
            bif !decide (Int.fdiv (IntKind.wrap IntKind.u64 (s * 2 ^ min (Int.toNat (IntKind.wrap IntKind.u64 r0)) (IntKind.bits IntKind.u64))) (2 ^ min (Int.toNat 32) (IntKind.bits IntKind.u64)) = 0) then
              rec1017 (IntKind.wrap IntKind.u64 (s * 2 ^ min (Int.toNat (IntKind.wrap IntKind.u64 r0)) (IntKind.bits IntKind.u64))) (IntKind.wrap IntKind.u64 r0) (Int.fdiv (IntKind.wrap IntKind.u64 (s * 2 ^ min (Int.toNat (IntKind.wrap IntKind.u64 r0)) (IntKind.bits IntKind.u64))) (2 ^ min (Int.toNat 32) (IntKind.bits IntKind.u64))) (IntKind.wrap IntKind.u64 (↑(BitVec.toNat (BitVec.ofInt (IntKind.bits IntKind.u64) (IntKind.wrap IntKind.u64 (s * 2 ^ min (Int.toNat (IntKind.wrap IntKind.u64 r0)) (IntKind.bits IntKind.u64))) &&& BitVec.ofInt (IntKind.bits IntKind.u64) 4294967295)) : Int)) (IntKind.wrap IntKind.u64 (↑(BitVec.toNat (BitVec.ofInt (IntKind.bits IntKind.u64) (IntKind.wrap IntKind.u64 (L * 2 ^ min (Int.toNat (IntKind.wrap IntKind.u64 r0)) (IntKind.bits IntKind.u64))) ||| BitVec.ofInt (IntKind.bits IntKind.u64) (Int.fdiv i (2 ^ min (Int.toNat (IntKind.wrap IntKind.u64 (64 - IntKind.wrap IntKind.u64 r0))) (IntKind.bits IntKind.u64))))) : Int)) (Int.fdiv (IntKind.wrap IntKind.u64 (i * 2 ^ min (Int.toNat (IntKind.wrap IntKind.u64 r0)) (IntKind.bits IntKind.u64))) (2 ^ min (Int.toNat 32) (IntKind.bits IntKind.u64))) (IntKind.wrap IntKind.u64 (↑(BitVec.toNat (BitVec.ofInt (IntKind.bits IntKind.u64) (IntKind.wrap IntKind.u64 (i * 2 ^ min (Int.toNat (IntKind.wrap IntKind.u64 r0)) (IntKind.bits IntKind.u64))) &&& BitVec.ofInt (IntKind.bits IntKind.u64) 4294967295)) : Int)) (IntKind.wrap IntKind.u64 (Int.tdiv (IntKind.wrap IntKind.u64 (↑(BitVec.toNat (BitVec.ofInt (IntKind.bits IntKind.u64) (IntKind.wrap IntKind.u64 (L * 2 ^ min (Int.toNat (IntKind.wrap IntKind.u64 r0)) (IntKind.bits IntKind.u64))) ||| BitVec.ofInt (IntKind.bits IntKind.u64) (Int.fdiv i (2 ^ min (Int.toNat (IntKind.wrap IntKind.u64 (64 - IntKind.wrap IntKind.u64 r0))) (IntKind.bits IntKind.u64))))) : Int)) (Int.fdiv (IntKind.wrap IntKind.u64 (s * 2 ^ min (Int.toNat (IntKind.wrap IntKind.u64 r0)) (IntKind.bits IntKind.u64))) (2 ^ min (Int.toNat 32) (IntKind.bits IntKind.u64))))) (IntKind.wrap IntKind.u64 (IntKind.wrap IntKind.u64 (↑(BitVec.toNat (BitVec.ofInt (IntKind.bits IntKind.u64) (IntKind.wrap IntKind.u64 (L * 2 ^ min (Int.toNat (IntKind.wrap IntKind.u64 r0)) (IntKind.bits IntKind.u64))) ||| BitVec.ofInt (IntKind.bits IntKind.u64) (Int.fdiv i (2 ^ min (Int.toNat (IntKind.wrap IntKind.u64 (64 - IntKind.wrap IntKind.u64 r0))) (IntKind.bits IntKind.u64))))) : Int) - IntKind.wrap IntKind.u64 (IntKind.wrap IntKind.u64 (Int.tdiv (IntKind.wrap IntKind.u64 (↑(BitVec.toNat (BitVec.ofInt (IntKind.bits IntKind.u64) (IntKind.wrap IntKind.u64 (L * 2 ^ min (Int.toNat (IntKind.wrap IntKind.u64 r0)) (IntKind.bits IntKind.u64))) ||| BitVec.ofInt (IntKind.bits IntKind.u64) (Int.fdiv i (2 ^ min (Int.toNat (IntKind.wrap IntKind.u64 (64 - IntKind.wrap IntKind.u64 r0))) (IntKind.bits IntKind.u64))))) : Int)) (Int.fdiv (IntKind.wrap IntKind.u64 (s * 2 ^ min (Int.toNat (IntKind.wrap IntKind.u64 r0)) (IntKind.bits IntKind.u64))) (2 ^ min (Int.toNat 32) (IntKind.bits IntKind.u64)))) * Int.fdiv (IntKind.wrap IntKind.u64 (s * 2 ^ min (Int.toNat (IntKind.wrap IntKind.u64 r0)) (IntKind.bits IntKind.u64))) (2 ^ min (Int.toNat 32) (IntKind.bits IntKind.u64)))))
            else
              none
          else
            none
        else
          none
      else
        none
    else
      none
noncomputable def F96_21 (k : Nat) (rec1017 : Int → Int → Int → Int → Int → Int → Int → Int → Int → Option (Int × Int)) (rec1024 : Int → Int → Int → Int → Int → Int → Int → Int → Int → Option (Int × Int)) (rec3 : Int → Int → Int → Option (Int × Int)) (rec5 : Int → Int → Int → Option (Int × Int)) (rec21 : Int → Int → Int → Int → Int → Int → Int → Int → Option (Int × Int)) (s : Int) (r : Int) (r_9 : Int) (a : Int) (y : Int) (t13 : Int) (t14 : Int) (t15 : Int) : Option (Int × Int) :=
  bif !decide (r_9 = 0) then
    rec1024 s r r_9 a t14 t15 (IntKind.wrap IntKind.u64 (IntKind.wrap IntKind.u64 (IntKind.wrap IntKind.u64 (IntKind.wrap IntKind.u64 (y * 4294967296) + t13) - IntKind.wrap IntKind.u64 (t15 * s)) - IntKind.wrap IntKind.u64 (IntKind.wrap IntKind.u64 (Int.tdiv (IntKind.wrap IntKind.u64 (IntKind.wrap IntKind.u64 (IntKind.wrap IntKind.u64 (y * 4294967296) + t13) - IntKind.wrap IntKind.u64 (t15 * s))) r_9) * r_9))) (IntKind.wrap IntKind.u64 (IntKind.wrap IntKind.u64 (IntKind.wrap IntKind.u64 (y * 4294967296) + t13) - IntKind.wrap IntKind.u64 (t15 * s))) (IntKind.wrap IntKind.u64 (Int.tdiv (IntKind.wrap IntKind.u64 (IntKind.wrap IntKind.u64 (IntKind.wrap IntKind.u64 (y * 4294967296) + t13) - IntKind.wrap IntKind.u64 (t15 * s))) r_9))
  else
    none
noncomputable def F96 (k : Nat) (rec1017 : Int → Int → Int → Int → Int → Int → Int → Int → Int → Option (Int × Int)) (rec1024 : Int → Int → Int → Int → Int → Int → Int → Int → Int → Option (Int × Int)) (rec3 : Int → Int → Int → Option (Int × Int)) (rec5 : Int → Int → Int → Option (Int × Int)) (rec21 : Int → Int → Int → Int → Int → Int → Int → Int → Option (Int × Int)) (L : Int) (i : Int) (s : Int) : Option (Int × Int) :=
  bif decide (s = 0) then
    none
  else
    rec3 L i s
noncomputable def l96 : Nat → (Int → Int → Int → Int → Int → Int → Int → Int → Int → Option (Int × Int)) × (Int → Int → Int → Int → Int → Int → Int → Int → Int → Option (Int × Int)) × (Int → Int → Int → Option (Int × Int)) × (Int → Int → Int → Option (Int × Int)) × (Int → Int → Int → Int → Int → Int → Int → Int → Option (Int × Int))
  | 0 => (fun _ _ _ _ _ _ _ _ _ => none, fun _ _ _ _ _ _ _ _ _ => none, fun _ _ _ => none, fun _ _ _ => none, fun _ _ _ _ _ _ _ _ => none)
  | k + 1 => (F96_1017 k ((l96 k).1) ((l96 k).2.1) ((l96 k).2.2.1) ((l96 k).2.2.2.1) ((l96 k).2.2.2.2), F96_1024 k ((l96 k).1) ((l96 k).2.1) ((l96 k).2.2.1) ((l96 k).2.2.2.1) ((l96 k).2.2.2.2), F96_3 k ((l96 k).1) ((l96 k).2.1) ((l96 k).2.2.1) ((l96 k).2.2.2.1) ((l96 k).2.2.2.2), F96_5 k ((l96 k).1) ((l96 k).2.1) ((l96 k).2.2.1) ((l96 k).2.2.2.1) ((l96 k).2.2.2.2), F96_21 k ((l96 k).1) ((l96 k).2.1) ((l96 k).2.2.1) ((l96 k).2.2.2.1) ((l96 k).2.2.2.2))
noncomputable def f96 (k : Nat) (L : Int) (i : Int) (s : Int) : Option (Int × Int) := F96 k ((l96 k).1) ((l96 k).2.1) ((l96 k).2.2.1) ((l96 k).2.2.2.1) ((l96 k).2.2.2.2) L i s
noncomputable def s96 : Spec := ⟨false, [(.int .u64, false), (.int .u64, false)], true, .pair (.int .u64) (.int .u64), fun k xs => match xs with | [.int .u64 L, .int .u64 i, .int .u64 s] => f96 k L i s | _ => none, false, none⟩
noncomputable def env88 : List (FuncId × Spec) := (96, s96) :: env87
noncomputable abbrev x96 := exec ti (envOf env87) 135 h96 (finT ti true Go.Proofs.Try.f96.results.toList [(.int .u64, false), (.int .u64, false)] (.pair (.int .u64) (.int .u64)))
noncomputable def k96_1017 : List It := stackAt [.r, .r, .r, .r, .r, .r, .r, .r, .r, .r, .r, .r, .r, .r, .l, .b, .lb none] (bodyOf Go.Proofs.Try.f96) []
def t96_1017 (s : Int) (r : Int) (r_9 : Int) (a : Int) (y : Int) (t13 : Int) (t14 : Int) (t15 : Int) (t16 : Int) : St := [(4, Cell.val (AVal.int IntKind.u64 s)), (16, Cell.val (AVal.int IntKind.u64 r)), (18, Cell.val (AVal.int IntKind.u64 r_9)), (20, Cell.val (AVal.int IntKind.u64 a)), (22, Cell.val (AVal.int IntKind.u64 y)), (26, Cell.val (AVal.int IntKind.u64 t13)), (28, Cell.val (AVal.int IntKind.u64 t14)), (30, Cell.val (AVal.int IntKind.u64 t15)), (32, Cell.val (AVal.int IntKind.u64 t16))]
noncomputable def k96_1024 : List It := stackAt [.r, .r, .r, .r, .r, .r, .r, .r, .r, .r, .r, .r, .r, .r, .r, .r, .r, .r, .l, .b, .lb none] (bodyOf Go.Proofs.Try.f96) []
def t96_1024 (s : Int) (r : Int) (r_9 : Int) (a : Int) (t14 : Int) (t15 : Int) (t16 : Int) (t17 : Int) (t18 : Int) : St := [(4, Cell.val (AVal.int IntKind.u64 s)), (16, Cell.val (AVal.int IntKind.u64 r)), (18, Cell.val (AVal.int IntKind.u64 r_9)), (20, Cell.val (AVal.int IntKind.u64 a)), (28, Cell.val (AVal.int IntKind.u64 t14)), (30, Cell.val (AVal.int IntKind.u64 t15)), (32, Cell.val (AVal.int IntKind.u64 t16)), (34, Cell.val (AVal.int IntKind.u64 t17)), (36, Cell.val (AVal.int IntKind.u64 t18))]
noncomputable def k96_3 : List It := stackAt [.r, .r, .l, .l] (bodyOf Go.Proofs.Try.f96) []
def t96_3 (L : Int) (i : Int) (s : Int) : St := [(0, Cell.val (AVal.int IntKind.u64 L)), (2, Cell.val (AVal.int IntKind.u64 i)), (4, Cell.val (AVal.int IntKind.u64 s))]
noncomputable def k96_5 : List It := stackAt [.r, .r, .r, .l, .l] (bodyOf Go.Proofs.Try.f96) []
def t96_5 (L : Int) (i : Int) (s : Int) : St := [(0, Cell.val (AVal.int IntKind.u64 L)), (2, Cell.val (AVal.int IntKind.u64 i)), (4, Cell.val (AVal.int IntKind.u64 s))]
noncomputable def k96_21 : List It := stackAt [.r, .r, .r, .r, .r, .r, .r, .r, .r, .r, .r, .r, .r, .r, .r, .l] (bodyOf Go.Proofs.Try.f96) []
def t96_21 (s : Int) (r : Int) (r_9 : Int) (a : Int) (y : Int) (t13 : Int) (t14 : Int) (t15 : Int) : St := [(4, Cell.val (AVal.int IntKind.u64 s)), (16, Cell.val (AVal.int IntKind.u64 r)), (18, Cell.val (AVal.int IntKind.u64 r_9)), (20, Cell.val (AVal.int IntKind.u64 a)), (22, Cell.val (AVal.int IntKind.u64 y)), (26, Cell.val (AVal.int IntKind.u64 t13)), (28, Cell.val (AVal.int IntKind.u64 t14)), (30, Cell.val (AVal.int IntKind.u64 t15))]
theorem e96_1017 (k : Nat) (s : Int) (r : Int) (r_9 : Int) (a : Int) (y : Int) (t13 : Int) (t14 : Int) (t15 : Int) (t16 : Int) : x96 (k + 1) k96_1017 (t96_1017 s r r_9 a y t13 t14 t15 t16) = F96_1017 k (fun (s : Int) (r : Int) (r_9 : Int) (a : Int) (y : Int) (t13 : Int) (t14 : Int) (t15 : Int) (t16 : Int) => x96 k k96_1017 (t96_1017 s r r_9 a y t13 t14 t15 t16)) (fun (s : Int) (r : Int) (r_9 : Int) (a : Int) (t14 : Int) (t15 : Int) (t16 : Int) (t17 : Int) (t18 : Int) => x96 k k96_1024 (t96_1024 s r r_9 a t14 t15 t16 t17 t18)) (fun (L : Int) (i : Int) (s : Int) => x96 k k96_3 (t96_3 L i s)) (fun (L : Int) (i : Int) (s : Int) => x96 k k96_5 (t96_5 L i s)) (fun (s : Int) (r : Int) (r_9 : Int) (a : Int) (y : Int) (t13 : Int) (t14 : Int) (t15 : Int) => x96 k k96_21 (t96_21 s r r_9 a y t13 t14 t15)) s r r_9 a y t13 t14 t15 t16 := by kernel_rfl
theorem e96_1024 (k : Nat) (s : Int) (r : Int) (r_9 : Int) (a : Int) (t14 : Int) (t15 : Int) (t16 : Int) (t17 : Int) (t18 : Int) : x96 (k + 1) k96_1024 (t96_1024 s r r_9 a t14 t15 t16 t17 t18) = F96_1024 k (fun (s : Int) (r : Int) (r_9 : Int) (a : Int) (y : Int) (t13 : Int) (t14 : Int) (t15 : Int) (t16 : Int) => x96 k k96_1017 (t96_1017 s r r_9 a y t13 t14 t15 t16)) (fun (s : Int) (r : Int) (r_9 : Int) (a : Int) (t14 : Int) (t15 : Int) (t16 : Int) (t17 : Int) (t18 : Int) => x96 k k96_1024 (t96_1024 s r r_9 a t14 t15 t16 t17 t18)) (fun (L : Int) (i : Int) (s : Int) => x96 k k96_3 (t96_3 L i s)) (fun (L : Int) (i : Int) (s : Int) => x96 k k96_5 (t96_5 L i s)) (fun (s : Int) (r : Int) (r_9 : Int) (a : Int) (y : Int) (t13 : Int) (t14 : Int) (t15 : Int) => x96 k k96_21 (t96_21 s r r_9 a y t13 t14 t15)) s r r_9 a t14 t15 t16 t17 t18 := by kernel_rfl
theorem e96_3 (k : Nat) (L : Int) (i : Int) (s : Int) : x96 (k + 1) k96_3 (t96_3 L i s) = F96_3 k (fun (s : Int) (r : Int) (r_9 : Int) (a : Int) (y : Int) (t13 : Int) (t14 : Int) (t15 : Int) (t16 : Int) => x96 k k96_1017 (t96_1017 s r r_9 a y t13 t14 t15 t16)) (fun (s : Int) (r : Int) (r_9 : Int) (a : Int) (t14 : Int) (t15 : Int) (t16 : Int) (t17 : Int) (t18 : Int) => x96 k k96_1024 (t96_1024 s r r_9 a t14 t15 t16 t17 t18)) (fun (L : Int) (i : Int) (s : Int) => x96 k k96_3 (t96_3 L i s)) (fun (L : Int) (i : Int) (s : Int) => x96 k k96_5 (t96_5 L i s)) (fun (s : Int) (r : Int) (r_9 : Int) (a : Int) (y : Int) (t13 : Int) (t14 : Int) (t15 : Int) => x96 k k96_21 (t96_21 s r r_9 a y t13 t14 t15)) L i s := by kernel_rfl
theorem e96_5 (k : Nat) (L : Int) (i : Int) (s : Int) : x96 (k + 1) k96_5 (t96_5 L i s) = F96_5 k (fun (s : Int) (r : Int) (r_9 : Int) (a : Int) (y : Int) (t13 : Int) (t14 : Int) (t15 : Int) (t16 : Int) => x96 k k96_1017 (t96_1017 s r r_9 a y t13 t14 t15 t16)) (fun (s : Int) (r : Int) (r_9 : Int) (a : Int) (t14 : Int) (t15 : Int) (t16 : Int) (t17 : Int) (t18 : Int) => x96 k k96_1024 (t96_1024 s r r_9 a t14 t15 t16 t17 t18)) (fun (L : Int) (i : Int) (s : Int) => x96 k k96_3 (t96_3 L i s)) (fun (L : Int) (i : Int) (s : Int) => x96 k k96_5 (t96_5 L i s)) (fun (s : Int) (r : Int) (r_9 : Int) (a : Int) (y : Int) (t13 : Int) (t14 : Int) (t15 : Int) => x96 k k96_21 (t96_21 s r r_9 a y t13 t14 t15)) L i s := by kernel_rfl
theorem e96_21 (k : Nat) (s : Int) (r : Int) (r_9 : Int) (a : Int) (y : Int) (t13 : Int) (t14 : Int) (t15 : Int) : x96 (k + 1) k96_21 (t96_21 s r r_9 a y t13 t14 t15) = F96_21 k (fun (s : Int) (r : Int) (r_9 : Int) (a : Int) (y : Int) (t13 : Int) (t14 : Int) (t15 : Int) (t16 : Int) => x96 k k96_1017 (t96_1017 s r r_9 a y t13 t14 t15 t16)) (fun (s : Int) (r : Int) (r_9 : Int) (a : Int) (t14 : Int) (t15 : Int) (t16 : Int) (t17 : Int) (t18 : Int) => x96 k k96_1024 (t96_1024 s r r_9 a t14 t15 t16 t17 t18)) (fun (L : Int) (i : Int) (s : Int) => x96 k k96_3 (t96_3 L i s)) (fun (L : Int) (i : Int) (s : Int) => x96 k k96_5 (t96_5 L i s)) (fun (s : Int) (r : Int) (r_9 : Int) (a : Int) (y : Int) (t13 : Int) (t14 : Int) (t15 : Int) => x96 k k96_21 (t96_21 s r r_9 a y t13 t14 t15)) s r r_9 a y t13 t14 t15 := by kernel_rfl
theorem q96 : ∀ k : Nat, ((fun (s : Int) (r : Int) (r_9 : Int) (a : Int) (y : Int) (t13 : Int) (t14 : Int) (t15 : Int) (t16 : Int) => x96 k k96_1017 (t96_1017 s r r_9 a y t13 t14 t15 t16)), (fun (s : Int) (r : Int) (r_9 : Int) (a : Int) (t14 : Int) (t15 : Int) (t16 : Int) (t17 : Int) (t18 : Int) => x96 k k96_1024 (t96_1024 s r r_9 a t14 t15 t16 t17 t18)), (fun (L : Int) (i : Int) (s : Int) => x96 k k96_3 (t96_3 L i s)), (fun (L : Int) (i : Int) (s : Int) => x96 k k96_5 (t96_5 L i s)), (fun (s : Int) (r : Int) (r_9 : Int) (a : Int) (y : Int) (t13 : Int) (t14 : Int) (t15 : Int) => x96 k k96_21 (t96_21 s r r_9 a y t13 t14 t15))) = l96 k
  | 0 => rfl
  | k + 1 => by
    have h := q96 k
    show _ = (F96_1017 k ((l96 k).1) ((l96 k).2.1) ((l96 k).2.2.1) ((l96 k).2.2.2.1) ((l96 k).2.2.2.2), F96_1024 k ((l96 k).1) ((l96 k).2.1) ((l96 k).2.2.1) ((l96 k).2.2.2.1) ((l96 k).2.2.2.2), F96_3 k ((l96 k).1) ((l96 k).2.1) ((l96 k).2.2.1) ((l96 k).2.2.2.1) ((l96 k).2.2.2.2), F96_5 k ((l96 k).1) ((l96 k).2.1) ((l96 k).2.2.1) ((l96 k).2.2.2.1) ((l96 k).2.2.2.2), F96_21 k ((l96 k).1) ((l96 k).2.1) ((l96 k).2.2.1) ((l96 k).2.2.2.1) ((l96 k).2.2.2.2))
    rw [← h]
    exact (Prod.ext (funext fun s => funext fun r => funext fun r_9 => funext fun a => funext fun y => funext fun t13 => funext fun t14 => funext fun t15 => funext fun t16 => e96_1017 k s r r_9 a y t13 t14 t15 t16) (Prod.ext (funext fun s => funext fun r => funext fun r_9 => funext fun a => funext fun t14 => funext fun t15 => funext fun t16 => funext fun t17 => funext fun t18 => e96_1024 k s r r_9 a t14 t15 t16 t17 t18) (Prod.ext (funext fun L => funext fun i => funext fun s => e96_3 k L i s) (Prod.ext (funext fun L => funext fun i => funext fun s => e96_5 k L i s) (funext fun s => funext fun r => funext fun r_9 => funext fun a => funext fun y => funext fun t13 => funext fun t14 => funext fun t15 => e96_21 k s r r_9 a y t13 t14 t15)))))
theorem w96 (k : Nat) (L : Int) (i : Int) (s : Int) : runFn ti (envOf env87) 135 h96 (finT ti true Go.Proofs.Try.f96.results.toList [(.int .u64, false), (.int .u64, false)] (.pair (.int .u64) (.int .u64))) k (bodyOf Go.Proofs.Try.f96) (initS 0 [.int .u64 L, .int .u64 i, .int .u64 s]) = F96 k (fun (s : Int) (r : Int) (r_9 : Int) (a : Int) (y : Int) (t13 : Int) (t14 : Int) (t15 : Int) (t16 : Int) => x96 k k96_1017 (t96_1017 s r r_9 a y t13 t14 t15 t16)) (fun (s : Int) (r : Int) (r_9 : Int) (a : Int) (t14 : Int) (t15 : Int) (t16 : Int) (t17 : Int) (t18 : Int) => x96 k k96_1024 (t96_1024 s r r_9 a t14 t15 t16 t17 t18)) (fun (L : Int) (i : Int) (s : Int) => x96 k k96_3 (t96_3 L i s)) (fun (L : Int) (i : Int) (s : Int) => x96 k k96_5 (t96_5 L i s)) (fun (s : Int) (r : Int) (r_9 : Int) (a : Int) (y : Int) (t13 : Int) (t14 : Int) (t15 : Int) => x96 k k96_21 (t96_21 s r r_9 a y t13 t14 t15)) L i s := by kernel_rfl
theorem v96 (k : Nat) (L : Int) (i : Int) (s : Int) : runFn ti (envOf env87) 135 h96 (finT ti true Go.Proofs.Try.f96.results.toList [(.int .u64, false), (.int .u64, false)] (.pair (.int .u64) (.int .u64))) k (bodyOf Go.Proofs.Try.f96) (initS 0 [.int .u64 L, .int .u64 i, .int .u64 s]) = f96 k L i s := by
  rw [w96]
  have h := q96 k
  unfold f96
  rw [← h]
theorem m96 : Meets Go.Proofs.Try.prog 96 s96 := meets_of_run tiOk env87_ok mo Go.Proofs.Try.func96 (body := bodyOf Go.Proofs.Try.f96) (by kernel_rfl) (N := 135) (by kernel_rfl) (hs := h96) (by
  intro k xs r h
  unfold s96 at h
  dsimp only at h
  split at h
  · exact ⟨Nat.le_of_ble_eq_true rfl, (v96 k _ _ _).trans h⟩
  · cases h)
theorem env88_ok : EnvOk Go.Proofs.Try.prog (envOf env88) := envOf_cons m96 Go.Proofs.Try.func96 (by kernel_rfl) (by kernel_rfl) env87_ok

-- impl.quotientDown
noncomputable def f66 (k : Nat) (L : Int) (i : Int) (s : Int) (t : Int) : Option ((Int × Int) × Bool) :=
  (f87 k L).bind fun r0 =>
  (f88 k r0.fst r0.snd.fst r0.snd.snd (bif decide (IntKind.wrap IntKind.i64 (i + t) < 0) then 0 else IntKind.wrap IntKind.i64 (i + t))).bind fun r1 =>
  (f97 k s).bind fun r2 =>
  (f96 k 0 r1.snd.fst r2).bind fun r3 =>
  (f97 k s).bind fun r4 =>
  (f96 k r3.snd r1.snd.snd r4).bind fun r5 =>
  (f88 k (!decide (L < 0) == decide (s < 0)) r3.fst r5.fst (bif decide (0 < IntKind.wrap IntKind.i64 (i + t)) then 0 else IntKind.wrap IntKind.i64 (i + t))).bind fun r6 =>
  bif decide (r5.snd = 0) then
    (f88 k r6.fst r6.snd.fst r6.snd.snd (bif decide (IntKind.wrap IntKind.i64 (IntKind.wrap IntKind.i64 (0 - i) - t) < 0) then 0 else IntKind.wrap IntKind.i64 (IntKind.wrap IntKind.i64 (0 - i) - t))).bind fun r7 =>
    (f98 k r7.fst r7.snd.fst r7.snd.snd (!decide (L < 0) == decide (s < 0)) r3.fst r5.fst).bind fun r8 =>
    bif !decide (L < 0) == decide (s < 0) then
      bif !decide (r8 = 0) then
        (f99 k r6.fst r6.snd.fst r6.snd.snd (decide (-1 < 0)) 0 (IntKind.wrap IntKind.u64 (IntKind.wrap IntKind.i64 (0 - -1)))).bind fun r9 =>
        (f90 k true r9.snd.fst r9.snd.snd t).bind fun r10 =>
        some (((r10.fst.fst, r10.fst.snd), r10.snd))
      else
        (f90 k r6.fst r6.snd.fst r6.snd.snd t).bind fun r11 =>
        some (((r11.fst.fst, r11.fst.snd), r11.snd))
    else
      (f90 k r6.fst r6.snd.fst r6.snd.snd t).bind fun r12 =>
      some (((r12.fst.fst, r12.fst.snd), r12.snd))
  else
    bif !decide (L < 0) == decide (s < 0) then
      (f99 k r6.fst r6.snd.fst r6.snd.snd (decide (-1 < 0)) 0 (IntKind.wrap IntKind.u64 (IntKind.wrap IntKind.i64 (0 - -1)))).bind fun r13 =>
      (f90 k true r13.snd.fst r13.snd.snd t).bind fun r14 =>
      some (((r14.fst.fst, r14.fst.snd), r14.snd))
    else
      (f90 k r6.fst r6.snd.fst r6.snd.snd t).bind fun r15 =>
      some (((r15.fst.fst, r15.fst.snd), r15.snd))
noncomputable def s66 : Spec := ⟨false, [(.pair (.int .i64) (.int .i64), true), (.bool, false)], true, .pair (.pair (.int .i64) (.int .i64)) (.bool), fun k xs => match xs with | [.int .i64 L, .int .i64 i, .int .i64 s, .int .i64 t] => f66 k L i s t | _ => none, false, none⟩
noncomputable def env89 : List (FuncId × Spec) := (66, s66) :: env88
theorem v66 (k : Nat) (L : Int) (i : Int) (s : Int) (t : Int) : runFn ti (envOf env88) 88 [] (finT ti true Go.Proofs.Try.f66.results.toList [(.pair (.int .i64) (.int .i64), true), (.bool, false)] (.pair (.pair (.int .i64) (.int .i64)) (.bool))) k (bodyOf Go.Proofs.Try.f66) (initS 0 [.int .i64 L, .int .i64 i, .int .i64 s, .int .i64 t]) = f66 k L i s t := by kernel_rfl
theorem m66 : Meets Go.Proofs.Try.prog 66 s66 := meets_of_run tiOk env88_ok mo Go.Proofs.Try.func66 (body := bodyOf Go.Proofs.Try.f66) (by kernel_rfl) (N := 88) (by kernel_rfl) (hs := []) (by
  intro k xs r h
  unfold s66 at h
  dsimp only at h
  split at h
  · exact ⟨Nat.le_of_ble_eq_true rfl, (v66 k _ _ _ _).trans h⟩
  · cases h)
theorem env89_ok : EnvOk Go.Proofs.Try.prog (envOf env89) := envOf_cons m66 Go.Proofs.Try.func66 (by kernel_rfl) (by kernel_rfl) env88_ok

-- impl.ShareOf
noncomputable def f33 (k : Nat) (b_K : Int) (b_Low : List (Int)) (b_High : List (Int)) (l : List (Int × Int)) (kind : Int) : Option (Int × Bool) :=
  (f44 k (b_K, b_Low, b_High) l).bind fun r0 =>
  bif !r0 then
    some ((0, false))
  else
    (f65 k kind).bind fun r1 =>
    bif !r1 then
      some ((0, false))
    else
      (f51 k (b_K, b_Low, b_High) l).bind fun r2 =>
      (f56 k (b_K, b_Low, b_High)).bind fun r3 =>
      bif !r2.snd then
        some ((0, false))
      else
        bif !r3.snd then
          some ((0, false))
        else
          bif boundA (IntKind.wrap IntKind.i64 (kind - 1)) (List.length r2.fst) then
            bif Nat.blt (Int.toNat (IntKind.wrap IntKind.i64 (kind - 1))) (List.length r2.fst) then
              (f66 k (IntKind.wrap IntKind.i64 (100 * (List.getD r2.fst (Int.toNat (IntKind.wrap IntKind.i64 (kind - 1))) (0, 0)).fst)) (IntKind.wrap IntKind.i64 (r3.fst.snd - (List.getD r2.fst (Int.toNat (IntKind.wrap IntKind.i64 (kind - 1))) (0, 0)).snd)) r3.fst.fst 0).bind fun r4 =>
              some ((r4.fst.fst, true))
            else
              none
          else
            none
noncomputable def s33 : Spec := ⟨false, [(.int .i64, false), (.bool, false)], true, .pair (.int .i64) (.bool), fun k xs => match xs with | [.agg [.int .i64 b_K, .slc 3 (.int .i64) b_Low, .slc 3 (.int .i64) b_High], .slc 63 (.pair (.int .i64) (.int .i64)) l, .int .i64 kind] => f33 k b_K b_Low b_High l kind | _ => none, false, none⟩
noncomputable def env90 : List (FuncId × Spec) := (33, s33) :: env89
theorem v33 (k : Nat) (b_K : Int) (b_Low : List (Int)) (b_High : List (Int)) (l : List (Int × Int)) (kind : Int) : runFn ti (envOf env89) 59 [] (finT ti true Go.Proofs.Try.f33.results.toList [(.int .i64, false), (.bool, false)] (.pair (.int .i64) (.bool))) k (bodyOf Go.Proofs.Try.f33) (initS 0 [.agg [.int .i64 b_K, .slc 3 (.int .i64) b_Low, .slc 3 (.int .i64) b_High], .slc 63 (.pair (.int .i64) (.int .i64)) l, .int .i64 kind]) = f33 k b_K b_Low b_High l kind := by kernel_rfl
theorem m33 : Meets Go.Proofs.Try.prog 33 s33 := meets_of_run tiOk env89_ok mo Go.Proofs.Try.func33 (body := bodyOf Go.Proofs.Try.f33) (by kernel_rfl) (N := 59) (by kernel_rfl) (hs := []) (by
  intro k xs r h
  unfold s33 at h
  dsimp only at h
  split at h
  · exact ⟨Nat.le_of_ble_eq_true rfl, (v33 k _ _ _ _ _).trans h⟩
  · cases h)
theorem env90_ok : EnvOk Go.Proofs.Try.prog (envOf env90) := envOf_cons m33 Go.Proofs.Try.func33 (by kernel_rfl) (by kernel_rfl) env89_ok

-- laws.FnExactShareOf
noncomputable def f7 (k : Nat) (L_K : Int) (L_Low : List (Int)) (L_High : List (Int)) (i : List (Int × Int)) (s : Int) : Option (Bool) :=
  (f8 k L_K L_Low L_High 1000000).bind fun r0 =>
  bif decide (r0 < 0) then
    some true
  else
    (f9 k i r0).bind fun r1 =>
    bif decide (r1 < 0) then
      some true
    else
      (f12 k L_K L_Low L_High false).bind fun r2 =>
      (f13 k i false).bind fun r3 =>
      (f32 k r2.fst (List.take r2.snd.fst.snd r2.snd.fst.fst) (List.take r2.snd.snd.snd r2.snd.snd.fst) (List.take r3.snd r3.fst) s).bind fun r4 =>
      (f12 k L_K L_Low L_High false).bind fun r5 =>
      (f13 k i false).bind fun r6 =>
      (f33 k r5.fst (List.take r5.snd.fst.snd r5.snd.fst.fst) (List.take r5.snd.snd.snd r5.snd.snd.fst) (List.take r6.snd r6.fst) s).bind fun r7 =>
      bif !decide (r7.fst = r4.fst) then
        some false
      else
        bif !r7.snd == r4.snd then
          some false
        else
          (f12 k L_K L_Low L_High false).bind fun r8 =>
          (f16 k r5.fst r5.snd.fst.fst r5.snd.fst.snd r5.snd.snd.fst r5.snd.snd.snd r8.fst r8.snd.fst.fst r8.snd.fst.snd r8.snd.snd.fst r8.snd.snd.snd).bind fun r9 =>
          bif !r9 then
            some false
          else
            (f13 k i false).bind fun r10 =>
            (f17 k r6.fst r6.snd r10.fst r10.snd).bind fun r11 =>
            bif !r11 then
              some false
            else
              (f12 k L_K L_Low L_High true).bind fun r12 =>
              (f13 k i true).bind fun r13 =>
              (f33 k r12.fst (List.take r12.snd.fst.snd r12.snd.fst.fst) (List.take r12.snd.snd.snd r12.snd.snd.fst) (List.take r13.snd r13.fst) s).bind fun r14 =>
              bif !decide (r14.fst = r4.fst) then
                some false
              else
                bif !r14.snd == r4.snd then
                  some false
                else
                  some true
noncomputable def s7 : Spec := ⟨false, [(.bool, false)], true, .bool, fun k xs => match xs with | [.agg [.int .i64 L_K, .slc 3 (.int .i64) L_Low, .slc 3 (.int .i64) L_High], .slc 65 (.pair (.int .i64) (.int .i64)) i, .int .i64 s] => f7 k L_K L_Low L_High i s | _ => none, false, none⟩
noncomputable def env91 : List (FuncId × Spec) := (7, s7) :: env90
theorem v7 (k : Nat) (L_K : Int) (L_Low : List (Int)) (L_High : List (Int)) (i : List (Int × Int)) (s : Int) : runFn tiV (envOf env90) 81 [] (finT tiV true Go.Proofs.Try.f7.results.toList [(.bool, false)] (.bool)) k (bodyOf Go.Proofs.Try.f7) (initS 0 [.agg [.int .i64 L_K, .slc 3 (.int .i64) L_Low, .slc 3 (.int .i64) L_High], .slc 65 (.pair (.int .i64) (.int .i64)) i, .int .i64 s]) = f7 k L_K L_Low L_High i s := by kernel_rfl
theorem m7 : Meets Go.Proofs.Try.prog 7 s7 := meets_of_run tiVOk env90_ok mo Go.Proofs.Try.func7 (body := bodyOf Go.Proofs.Try.f7) (by kernel_rfl) (N := 81) (by kernel_rfl) (hs := []) (by
  intro k xs r h
  unfold s7 at h
  dsimp only at h
  split at h
  · exact ⟨Nat.le_of_ble_eq_true rfl, (v7 k _ _ _ _ _).trans h⟩
  · cases h)
theorem env91_ok : EnvOk Go.Proofs.Try.prog (envOf env91) := envOf_cons m7 Go.Proofs.Try.func7 (by kernel_rfl) (by kernel_rfl) env90_ok

def o58 (q : T (.slice 3 (.int .i64))) : St := [(3, .row true 3 (.int .i64) (q))]
def p58 (x : St × T (.int .i64)) : Option (T (.slice 3 (.int .i64)) × T (.int .i64)) := match x with | ([(3, .row true 3 (.int .i64) a)], r) => some (a, r) | _ => none
-- laws.markIntS
def h58 : Hints := [(1002, .lab [(0, .one (.view 3 (Ty.int IntKind.i64))), (1, .one (.v)), (5, .one (.v))])]
noncomputable def F58_1002 (k : Nat) (rec1002 : Nat → Int → Int → List Int → Option (((List (Int))) × Int)) (a_n : Nat) (k_ : Int) (i : Int) (p3 : List Int) : Option (((List (Int))) × Int) :=
  bif decide (i < (↑a_n : Int)) then
    bif boundA i a_n then
      bif Nat.ble a_n (List.length p3) then
        bif Nat.blt (Int.toNat i) (List.length p3) then
          rec1002 a_n (IntKind.wrap IntKind.i64 (k_ + 1)) (IntKind.wrap IntKind.i64 (i + 1)) (List.set p3 (Int.toNat i) k_)
        else
          none
      else
        none
    else
      none
  else
    some ((p3, k_))
noncomputable def F58 (k : Nat) (rec1002 : Nat → Int → Int → List Int → Option (((List (Int))) × Int)) (a : List (Int)) (a_n : Nat) (k_ : Int) : Option (((List (Int))) × Int) :=
  rec1002 a_n k_ (0) a
noncomputable def l58 : Nat → (Nat → Int → Int → List Int → Option (((List (Int))) × Int))
  | 0 => fun _ _ _ _ => none
  | k + 1 => F58_1002 k (l58 k)
noncomputable def f58 (k : Nat) (a : List (Int)) (a_n : Nat) (k_ : Int) : Option (((List (Int))) × Int) := F58 k (l58 k) a a_n k_
-- laws.markIntS
def h58_0 : Hints := [(1002, .lab [(0, .one (.own 3 (Ty.int IntKind.i64))), (1, .one (.v)), (5, .one (.v))])]
noncomputable def F58_0_1002 (k : Nat) (rec1002 : Int → Int → List Int → Option (((List (Int))) × Int)) (k_ : Int) (i : Int) (p3 : List Int) : Option (((List (Int))) × Int) :=
  bif decide (i < (↑(List.length p3) : Int)) then
    bif boundA i (List.length p3) then
      bif Nat.blt (Int.toNat i) (List.length p3) then
        rec1002 (IntKind.wrap IntKind.i64 (k_ + 1)) (IntKind.wrap IntKind.i64 (i + 1)) (List.set p3 (Int.toNat i) k_)
      else
        none
    else
      none
  else
    some ((p3, k_))
noncomputable def F58_0 (k : Nat) (rec1002 : Int → Int → List Int → Option (((List (Int))) × Int)) (a : List (Int)) (k_ : Int) : Option (((List (Int))) × Int) :=
  rec1002 k_ (0) a
noncomputable def l58_0 : Nat → (Int → Int → List Int → Option (((List (Int))) × Int))
  | 0 => fun _ _ _ => none
  | k + 1 => F58_0_1002 k (l58_0 k)
noncomputable def f58_0 (k : Nat) (a : List (Int)) (k_ : Int) : Option (((List (Int))) × Int) := F58_0 k (l58_0 k) a k_
noncomputable def g58 (k : Nat) (os : St) (xs : List AVal) : Option (T (.slice 3 (.int .i64)) × T (.int .i64)) := match os, xs with | [(3, .row true 3 (.int .i64) a)], [.ref 3 (some a_n), .int .i64 k_] => f58 k a a_n k_ | [(3, .row true 3 (.int .i64) a)], [.ref 3 none, .int .i64 k_] => f58_0 k a k_ | _, _ => none
noncomputable def s58 : Spec := ⟨false, [(.int .i64, false)], true, .int .i64, fun _ _ => none, false, some ⟨.slice 3 (.int .i64), g58, o58⟩⟩
noncomputable def env92 : List (FuncId × Spec) := (58, s58) :: env91
noncomputable abbrev x58 := exec ti (envOf env91) 19 h58 (finJ ti Go.Proofs.Try.f58.results.toList [(.int .i64, false)] (.int .i64) [3] p58)
noncomputable def k58_1002 : List It := stackAt [.r, .l, .r, .b, .lb none] (bodyOf Go.Proofs.Try.f58) []
def t58_1002 (a_n : Nat) (k_ : Int) (i : Int) (p3 : List Int) : St := [(0, Cell.val (AVal.ref 3 (some a_n))), (2, Cell.val (AVal.int IntKind.i64 k_)), (10, Cell.val (AVal.int IntKind.i64 i)), (3, Cell.row true 3 (Ty.int IntKind.i64) p3)]
theorem e58_1002 (k : Nat) (a_n : Nat) (k_ : Int) (i : Int) (p3 : List Int) : x58 (k + 1) k58_1002 (t58_1002 a_n k_ i p3) = F58_1002 k (fun (a_n : Nat) (k_ : Int) (i : Int) (p3 : List Int) => x58 k k58_1002 (t58_1002 a_n k_ i p3)) a_n k_ i p3 := by kernel_rfl
theorem q58 : ∀ k : Nat, (fun (a_n : Nat) (k_ : Int) (i : Int) (p3 : List Int) => x58 k k58_1002 (t58_1002 a_n k_ i p3)) = l58 k
  | 0 => rfl
  | k + 1 => by
    have h := q58 k
    show _ = F58_1002 k (l58 k)
    rw [← h]
    exact (funext fun a_n => funext fun k_ => funext fun i => funext fun p3 => e58_1002 k a_n k_ i p3)
theorem w58 (k : Nat) (a : List (Int)) (a_n : Nat) (k_ : Int) : runFn ti (envOf env91) 19 h58 (finJ ti Go.Proofs.Try.f58.results.toList [(.int .i64, false)] (.int .i64) [3] p58) k (bodyOf Go.Proofs.Try.f58) ([(3, .row true 3 (.int .i64) a)] ++ initS 0 [.ref 3 (some a_n), .int .i64 k_]) = F58 k (fun (a_n : Nat) (k_ : Int) (i : Int) (p3 : List Int) => x58 k k58_1002 (t58_1002 a_n k_ i p3)) a a_n k_ := by kernel_rfl
theorem v58 (k : Nat) (a : List (Int)) (a_n : Nat) (k_ : Int) : runFn ti (envOf env91) 19 h58 (finJ ti Go.Proofs.Try.f58.results.toList [(.int .i64, false)] (.int .i64) [3] p58) k (bodyOf Go.Proofs.Try.f58) ([(3, .row true 3 (.int .i64) a)] ++ initS 0 [.ref 3 (some a_n), .int .i64 k_]) = f58 k a a_n k_ := by
  rw [w58]
  have h := q58 k
  unfold f58
  rw [← h]
noncomputable abbrev x58_0 := exec ti (envOf env91) 19 h58_0 (finJ ti Go.Proofs.Try.f58.results.toList [(.int .i64, false)] (.int .i64) [3] p58)
noncomputable def k58_0_1002 : List It := stackAt [.r, .l, .r, .b, .lb none] (bodyOf Go.Proofs.Try.f58) []
def t58_0_1002 (k_ : Int) (i : Int) (p3 : List Int) : St := [(0, Cell.val (AVal.ref 3 none)), (2, Cell.val (AVal.int IntKind.i64 k_)), (10, Cell.val (AVal.int IntKind.i64 i)), (3, Cell.row true 3 (Ty.int IntKind.i64) p3)]
theorem e58_0_1002 (k : Nat) (k_ : Int) (i : Int) (p3 : List Int) : x58_0 (k + 1) k58_0_1002 (t58_0_1002 k_ i p3) = F58_0_1002 k (fun (k_ : Int) (i : Int) (p3 : List Int) => x58_0 k k58_0_1002 (t58_0_1002 k_ i p3)) k_ i p3 := by kernel_rfl
theorem q58_0 : ∀ k : Nat, (fun (k_ : Int) (i : Int) (p3 : List Int) => x58_0 k k58_0_1002 (t58_0_1002 k_ i p3)) = l58_0 k
  | 0 => rfl
  | k + 1 => by
    have h := q58_0 k
    show _ = F58_0_1002 k (l58_0 k)
    rw [← h]
    exact (funext fun k_ => funext fun i => funext fun p3 => e58_0_1002 k k_ i p3)
theorem w58_0 (k : Nat) (a : List (Int)) (k_ : Int) : runFn ti (envOf env91) 19 h58_0 (finJ ti Go.Proofs.Try.f58.results.toList [(.int .i64, false)] (.int .i64) [3] p58) k (bodyOf Go.Proofs.Try.f58) ([(3, .row true 3 (.int .i64) a)] ++ initS 0 [.ref 3 none, .int .i64 k_]) = F58_0 k (fun (k_ : Int) (i : Int) (p3 : List Int) => x58_0 k k58_0_1002 (t58_0_1002 k_ i p3)) a k_ := by kernel_rfl
theorem v58_0 (k : Nat) (a : List (Int)) (k_ : Int) : runFn ti (envOf env91) 19 h58_0 (finJ ti Go.Proofs.Try.f58.results.toList [(.int .i64, false)] (.int .i64) [3] p58) k (bodyOf Go.Proofs.Try.f58) ([(3, .row true 3 (.int .i64) a)] ++ initS 0 [.ref 3 none, .int .i64 k_]) = f58_0 k a k_ := by
  rw [w58_0]
  have h := q58_0 k
  unfold f58_0
  rw [← h]
theorem hp58 : ∀ x q, p58 x = some q → (o58 q.1, q.2) = x := by
  intro x q h
  unfold p58 at h
  split at h
  · cases h
    rfl
  · cases h
theorem m58 : MeetsIO Go.Proofs.Try.prog 58 [(.int .i64, false)] (.int .i64) (IO.G ⟨.slice 3 (.int .i64), g58, o58⟩) := meets_io_of_run tiOk env91_ok mo Go.Proofs.Try.func58 (body := bodyOf Go.Proofs.Try.f58) (by kernel_rfl) (N := 19) (by kernel_rfl) (pick := p58) (by kernel_rfl) hp58 (by
  intro k os xs r h
  have h : g58 k os xs = some r := h
  unfold g58 at h
  split at h
  · exact ⟨Nat.le_of_ble_eq_true rfl, by kernel_rfl, h58, (v58 k _ _ _).trans h⟩
  · exact ⟨Nat.le_of_ble_eq_true rfl, by kernel_rfl, h58_0, (v58_0 k _ _).trans h⟩
  · cases h)
theorem env92_ok : EnvOk Go.Proofs.Try.prog (envOf env92) := envOf_io rfl m58 Go.Proofs.Try.func58 (by kernel_rfl) (by kernel_rfl) env91_ok

def o24 (q : T (.pair (.slice 3 (.int .i64)) (.slice 3 (.int .i64)))) : St := [(3, .row true 3 (.int .i64) (q.1)), (5, .row true 3 (.int .i64) (q.2))]
def p24 (x : St × T (.int .i64)) : Option (T (.pair (.slice 3 (.int .i64)) (.slice 3 (.int .i64))) × T (.int .i64)) := match x with | ([(3, .row true 3 (.int .i64) a_Low), (5, .row true 3 (.int .i64) a_High)], r) => some ((a_Low, a_High), r) | _ => none
-- laws.markBox
noncomputable def f24 (k : Nat) (a_Low : List (Int)) (a_High : List (Int)) (a_K : Int) (a_Low_n : Nat) (a_High_n : Nat) (k_ : Int) : Option (((List (Int)) × (List (Int))) × Int) :=
  (f58 k a_Low a_Low_n k_).bind fun r0 =>
  (f58 k a_High a_High_n r0.snd).bind fun r1 =>
  some (((r0.fst, r1.fst), r1.snd))
-- laws.markBox
noncomputable def f24_0 (k : Nat) (a_Low : List (Int)) (a_High : List (Int)) (a_K : Int) (k_ : Int) : Option (((List (Int)) × (List (Int))) × Int) :=
  (f58_0 k a_Low k_).bind fun r0 =>
  (f58_0 k a_High r0.snd).bind fun r1 =>
  some (((r0.fst, r1.fst), r1.snd))
noncomputable def g24 (k : Nat) (os : St) (xs : List AVal) : Option (T (.pair (.slice 3 (.int .i64)) (.slice 3 (.int .i64))) × T (.int .i64)) := match os, xs with | [(3, .row true 3 (.int .i64) a_Low), (5, .row true 3 (.int .i64) a_High)], [.agg [.int .i64 a_K, .ref 3 (some a_Low_n), .ref 5 (some a_High_n)], .int .i64 k_] => f24 k a_Low a_High a_K a_Low_n a_High_n k_ | [(3, .row true 3 (.int .i64) a_Low), (5, .row true 3 (.int .i64) a_High)], [.agg [.int .i64 a_K, .ref 3 none, .ref 5 none], .int .i64 k_] => f24_0 k a_Low a_High a_K k_ | _, _ => none
noncomputable def s24 : Spec := ⟨false, [(.int .i64, false)], true, .int .i64, fun _ _ => none, false, some ⟨.pair (.slice 3 (.int .i64)) (.slice 3 (.int .i64)), g24, o24⟩⟩
noncomputable def env93 : List (FuncId × Spec) := (24, s24) :: env92
theorem v24 (k : Nat) (a_Low : List (Int)) (a_High : List (Int)) (a_K : Int) (a_Low_n : Nat) (a_High_n : Nat) (k_ : Int) : runFn ti (envOf env92) 14 [] (finJ ti Go.Proofs.Try.f24.results.toList [(.int .i64, false)] (.int .i64) [3, 5] p24) k (bodyOf Go.Proofs.Try.f24) ([(3, .row true 3 (.int .i64) a_Low), (5, .row true 3 (.int .i64) a_High)] ++ initS 0 [.agg [.int .i64 a_K, .ref 3 (some a_Low_n), .ref 5 (some a_High_n)], .int .i64 k_]) = f24 k a_Low a_High a_K a_Low_n a_High_n k_ := by kernel_rfl
theorem v24_0 (k : Nat) (a_Low : List (Int)) (a_High : List (Int)) (a_K : Int) (k_ : Int) : runFn ti (envOf env92) 14 [] (finJ ti Go.Proofs.Try.f24.results.toList [(.int .i64, false)] (.int .i64) [3, 5] p24) k (bodyOf Go.Proofs.Try.f24) ([(3, .row true 3 (.int .i64) a_Low), (5, .row true 3 (.int .i64) a_High)] ++ initS 0 [.agg [.int .i64 a_K, .ref 3 none, .ref 5 none], .int .i64 k_]) = f24_0 k a_Low a_High a_K k_ := by kernel_rfl
theorem hp24 : ∀ x q, p24 x = some q → (o24 q.1, q.2) = x := by
  intro x q h
  unfold p24 at h
  split at h
  · cases h
    rfl
  · cases h
theorem m24 : MeetsIO Go.Proofs.Try.prog 24 [(.int .i64, false)] (.int .i64) (IO.G ⟨.pair (.slice 3 (.int .i64)) (.slice 3 (.int .i64)), g24, o24⟩) := meets_io_of_run tiOk env92_ok mo Go.Proofs.Try.func24 (body := bodyOf Go.Proofs.Try.f24) (by kernel_rfl) (N := 14) (by kernel_rfl) (pick := p24) (by kernel_rfl) hp24 (by
  intro k os xs r h
  have h : g24 k os xs = some r := h
  unfold g24 at h
  split at h
  · exact ⟨Nat.le_of_ble_eq_true rfl, by kernel_rfl, [], (v24 k _ _ _ _ _ _).trans h⟩
  · exact ⟨Nat.le_of_ble_eq_true rfl, by kernel_rfl, [], (v24_0 k _ _ _ _).trans h⟩
  · cases h)
theorem env93_ok : EnvOk Go.Proofs.Try.prog (envOf env93) := envOf_io rfl m24 Go.Proofs.Try.func24 (by kernel_rfl) (by kernel_rfl) env92_ok

def o25 (q : T (.slice 63 (.pair (.int .i64) (.int .i64)))) : St := [(3, .row true 63 (.pair (.int .i64) (.int .i64)) (q))]
def p25 (x : St × T (.int .i64)) : Option (T (.slice 63 (.pair (.int .i64) (.int .i64))) × T (.int .i64)) := match x with | ([(3, .row true 63 (.pair (.int .i64) (.int .i64)) a)], r) => some (a, r) | _ => none
-- laws.markNodeS
def h25 : Hints := [(1002, .lab [(0, .one (.view 63 (Ty.pair (Ty.int IntKind.i64) (Ty.int IntKind.i64)))), (1, .one (.v)), (5, .one (.v))])]
noncomputable def F25_1002 (k : Nat) (rec1002 : Nat → Int → Int → List (Int × Int) → Option (((List (Int × Int))) × Int)) (a_n : Nat) (k_ : Int) (i : Int) (p3 : List (Int × Int)) : Option (((List (Int × Int))) × Int) :=
  bif decide (i < (↑a_n : Int)) then
    bif boundA i a_n then
      bif Nat.ble a_n (List.length p3) then
        bif Nat.blt (Int.toNat i) (List.length p3) then
          bif boundA i a_n then
            bif Nat.ble a_n (List.length (List.set p3 (Int.toNat i) (k_, (List.getD p3 (Int.toNat i) (0, 0)).snd))) then
              bif Nat.blt (Int.toNat i) (List.length (List.set p3 (Int.toNat i) (k_, (List.getD p3 (Int.toNat i) (0, 0)).snd))) then
                rec1002 a_n (IntKind.wrap IntKind.i64 (IntKind.wrap IntKind.i64 (k_ + 1) + 1)) (IntKind.wrap IntKind.i64 (i + 1)) (List.set (List.set p3 (Int.toNat i) (k_, (List.getD p3 (Int.toNat i) (0, 0)).snd)) (Int.toNat i) ((List.getD (List.set p3 (Int.toNat i) (k_, (List.getD p3 (Int.toNat i) (0, 0)).snd)) (Int.toNat i) (0, 0)).fst, IntKind.wrap IntKind.i64 (k_ + 1)))
              else
                none
            else
              none
          else
            none
        else
          none
      else
        none
    else
      none
  else
    some ((p3, k_))
noncomputable def F25 (k : Nat) (rec1002 : Nat → Int → Int → List (Int × Int) → Option (((List (Int × Int))) × Int)) (a : List (Int × Int)) (a_n : Nat) (k_ : Int) : Option (((List (Int × Int))) × Int) :=
  rec1002 a_n k_ (0) a
noncomputable def l25 : Nat → (Nat → Int → Int → List (Int × Int) → Option (((List (Int × Int))) × Int))
  | 0 => fun _ _ _ _ => none
  | k + 1 => F25_1002 k (l25 k)
noncomputable def f25 (k : Nat) (a : List (Int × Int)) (a_n : Nat) (k_ : Int) : Option (((List (Int × Int))) × Int) := F25 k (l25 k) a a_n k_
-- laws.markNodeS
def h25_0 : Hints := [(1002, .lab [(0, .one (.own 63 (Ty.pair (Ty.int IntKind.i64) (Ty.int IntKind.i64)))), (1, .one (.v)), (5, .one (.v))])]
noncomputable def F25_0_1002 (k : Nat) (rec1002 : Int → Int → List (Int × Int) → Option (((List (Int × Int))) × Int)) (k_ : Int) (i : Int) (p3 : List (Int × Int)) : Option (((List (Int × Int))) × Int) :=
  bif decide (i < (↑(List.length p3) : Int)) then
    bif boundA i (List.length p3) then
      bif Nat.blt (Int.toNat i) (List.length p3) then
        bif boundA i (List.length (List.set p3 (Int.toNat i) (k_, (List.getD p3 (Int.toNat i) (0, 0)).snd))) then
          bif Nat.blt (Int.toNat i) (List.length (List.set p3 (Int.toNat i) (k_, (List.getD p3 (Int.toNat i) (0, 0)).snd))) then
            rec1002 (IntKind.wrap IntKind.i64 (IntKind.wrap IntKind.i64 (k_ + 1) + 1)) (IntKind.wrap IntKind.i64 (i + 1)) (List.set (List.set p3 (Int.toNat i) (k_, (List.getD p3 (Int.toNat i) (0, 0)).snd)) (Int.toNat i) ((List.getD (List.set p3 (Int.toNat i) (k_, (List.getD p3 (Int.toNat i) (0, 0)).snd)) (Int.toNat i) (0, 0)).fst, IntKind.wrap IntKind.i64 (k_ + 1)))
          else
            none
        else
          none
      else
        none
    else
      none
  else
    some ((p3, k_))
noncomputable def F25_0 (k : Nat) (rec1002 : Int → Int → List (Int × Int) → Option (((List (Int × Int))) × Int)) (a : List (Int × Int)) (k_ : Int) : Option (((List (Int × Int))) × Int) :=
  rec1002 k_ (0) a
noncomputable def l25_0 : Nat → (Int → Int → List (Int × Int) → Option (((List (Int × Int))) × Int))
  | 0 => fun _ _ _ => none
  | k + 1 => F25_0_1002 k (l25_0 k)
noncomputable def f25_0 (k : Nat) (a : List (Int × Int)) (k_ : Int) : Option (((List (Int × Int))) × Int) := F25_0 k (l25_0 k) a k_
noncomputable def g25 (k : Nat) (os : St) (xs : List AVal) : Option (T (.slice 63 (.pair (.int .i64) (.int .i64))) × T (.int .i64)) := match os, xs with | [(3, .row true 63 (.pair (.int .i64) (.int .i64)) a)], [.ref 3 (some a_n), .int .i64 k_] => f25 k a a_n k_ | [(3, .row true 63 (.pair (.int .i64) (.int .i64)) a)], [.ref 3 none, .int .i64 k_] => f25_0 k a k_ | _, _ => none
noncomputable def s25 : Spec := ⟨false, [(.int .i64, false)], true, .int .i64, fun _ _ => none, false, some ⟨.slice 63 (.pair (.int .i64) (.int .i64)), g25, o25⟩⟩
noncomputable def env94 : List (FuncId × Spec) := (25, s25) :: env93
noncomputable abbrev x25 := exec ti (envOf env93) 27 h25 (finJ ti Go.Proofs.Try.f25.results.toList [(.int .i64, false)] (.int .i64) [3] p25)
noncomputable def k25_1002 : List It := stackAt [.r, .l, .r, .b, .lb none] (bodyOf Go.Proofs.Try.f25) []
def t25_1002 (a_n : Nat) (k_ : Int) (i : Int) (p3 : List (Int × Int)) : St := [(0, Cell.val (AVal.ref 3 (some a_n))), (2, Cell.val (AVal.int IntKind.i64 k_)), (10, Cell.val (AVal.int IntKind.i64 i)), (3, Cell.row true 63 (Ty.pair (Ty.int IntKind.i64) (Ty.int IntKind.i64)) p3)]
theorem e25_1002 (k : Nat) (a_n : Nat) (k_ : Int) (i : Int) (p3 : List (Int × Int)) : x25 (k + 1) k25_1002 (t25_1002 a_n k_ i p3) = F25_1002 k (fun (a_n : Nat) (k_ : Int) (i : Int) (p3 : List (Int × Int)) => x25 k k25_1002 (t25_1002 a_n k_ i p3)) a_n k_ i p3 := by kernel_rfl
theorem q25 : ∀ k : Nat, (fun (a_n : Nat) (k_ : Int) (i : Int) (p3 : List (Int × Int)) => x25 k k25_1002 (t25_1002 a_n k_ i p3)) = l25 k
  | 0 => rfl
  | k + 1 => by
    have h := q25 k
    show _ = F25_1002 k (l25 k)
    rw [← h]
    exact (funext fun a_n => funext fun k_ => funext fun i => funext fun p3 => e25_1002 k a_n k_ i p3)
theorem w25 (k : Nat) (a : List (Int × Int)) (a_n : Nat) (k_ : Int) : runFn ti (envOf env93) 27 h25 (finJ ti Go.Proofs.Try.f25.results.toList [(.int .i64, false)] (.int .i64) [3] p25) k (bodyOf Go.Proofs.Try.f25) ([(3, .row true 63 (.pair (.int .i64) (.int .i64)) a)] ++ initS 0 [.ref 3 (some a_n), .int .i64 k_]) = F25 k (fun (a_n : Nat) (k_ : Int) (i : Int) (p3 : List (Int × Int)) => x25 k k25_1002 (t25_1002 a_n k_ i p3)) a a_n k_ := by kernel_rfl
theorem v25 (k : Nat) (a : List (Int × Int)) (a_n : Nat) (k_ : Int) : runFn ti (envOf env93) 27 h25 (finJ ti Go.Proofs.Try.f25.results.toList [(.int .i64, false)] (.int .i64) [3] p25) k (bodyOf Go.Proofs.Try.f25) ([(3, .row true 63 (.pair (.int .i64) (.int .i64)) a)] ++ initS 0 [.ref 3 (some a_n), .int .i64 k_]) = f25 k a a_n k_ := by
  rw [w25]
  have h := q25 k
  unfold f25
  rw [← h]
noncomputable abbrev x25_0 := exec ti (envOf env93) 27 h25_0 (finJ ti Go.Proofs.Try.f25.results.toList [(.int .i64, false)] (.int .i64) [3] p25)
noncomputable def k25_0_1002 : List It := stackAt [.r, .l, .r, .b, .lb none] (bodyOf Go.Proofs.Try.f25) []
def t25_0_1002 (k_ : Int) (i : Int) (p3 : List (Int × Int)) : St := [(0, Cell.val (AVal.ref 3 none)), (2, Cell.val (AVal.int IntKind.i64 k_)), (10, Cell.val (AVal.int IntKind.i64 i)), (3, Cell.row true 63 (Ty.pair (Ty.int IntKind.i64) (Ty.int IntKind.i64)) p3)]
theorem e25_0_1002 (k : Nat) (k_ : Int) (i : Int) (p3 : List (Int × Int)) : x25_0 (k + 1) k25_0_1002 (t25_0_1002 k_ i p3) = F25_0_1002 k (fun (k_ : Int) (i : Int) (p3 : List (Int × Int)) => x25_0 k k25_0_1002 (t25_0_1002 k_ i p3)) k_ i p3 := by kernel_rfl
theorem q25_0 : ∀ k : Nat, (fun (k_ : Int) (i : Int) (p3 : List (Int × Int)) => x25_0 k k25_0_1002 (t25_0_1002 k_ i p3)) = l25_0 k
  | 0 => rfl
  | k + 1 => by
    have h := q25_0 k
    show _ = F25_0_1002 k (l25_0 k)
    rw [← h]
    exact (funext fun k_ => funext fun i => funext fun p3 => e25_0_1002 k k_ i p3)
theorem w25_0 (k : Nat) (a : List (Int × Int)) (k_ : Int) : runFn ti (envOf env93) 27 h25_0 (finJ ti Go.Proofs.Try.f25.results.toList [(.int .i64, false)] (.int .i64) [3] p25) k (bodyOf Go.Proofs.Try.f25) ([(3, .row true 63 (.pair (.int .i64) (.int .i64)) a)] ++ initS 0 [.ref 3 none, .int .i64 k_]) = F25_0 k (fun (k_ : Int) (i : Int) (p3 : List (Int × Int)) => x25_0 k k25_0_1002 (t25_0_1002 k_ i p3)) a k_ := by kernel_rfl
theorem v25_0 (k : Nat) (a : List (Int × Int)) (k_ : Int) : runFn ti (envOf env93) 27 h25_0 (finJ ti Go.Proofs.Try.f25.results.toList [(.int .i64, false)] (.int .i64) [3] p25) k (bodyOf Go.Proofs.Try.f25) ([(3, .row true 63 (.pair (.int .i64) (.int .i64)) a)] ++ initS 0 [.ref 3 none, .int .i64 k_]) = f25_0 k a k_ := by
  rw [w25_0]
  have h := q25_0 k
  unfold f25_0
  rw [← h]
theorem hp25 : ∀ x q, p25 x = some q → (o25 q.1, q.2) = x := by
  intro x q h
  unfold p25 at h
  split at h
  · cases h
    rfl
  · cases h
theorem m25 : MeetsIO Go.Proofs.Try.prog 25 [(.int .i64, false)] (.int .i64) (IO.G ⟨.slice 63 (.pair (.int .i64) (.int .i64)), g25, o25⟩) := meets_io_of_run tiOk env93_ok mo Go.Proofs.Try.func25 (body := bodyOf Go.Proofs.Try.f25) (by kernel_rfl) (N := 27) (by kernel_rfl) (pick := p25) (by kernel_rfl) hp25 (by
  intro k os xs r h
  have h : g25 k os xs = some r := h
  unfold g25 at h
  split at h
  · exact ⟨Nat.le_of_ble_eq_true rfl, by kernel_rfl, h25, (v25 k _ _ _).trans h⟩
  · exact ⟨Nat.le_of_ble_eq_true rfl, by kernel_rfl, h25_0, (v25_0 k _ _).trans h⟩
  · cases h)
theorem env94_ok : EnvOk Go.Proofs.Try.prog (envOf env94) := envOf_io rfl m25 Go.Proofs.Try.func25 (by kernel_rfl) (by kernel_rfl) env93_ok

-- spec.VolumesOf
def h27 : Hints := [(1006, .lab [(1, .one (.frz 63 (Ty.pair (Ty.int IntKind.i64) (Ty.int IntKind.i64)))), (6, .one (.own 32 (Ty.pair (Ty.int IntKind.i64) (Ty.pair (Ty.slice 3 (Ty.int IntKind.i64)) (Ty.slice 3 (Ty.int IntKind.i64)))))), (8, .one (.own 68 (Ty.pair (Ty.int IntKind.i64) (Ty.int IntKind.i64)))), (9, .one (.v))])]
noncomputable def F27_1006 (k : Nat) (rec1006 : List (Int × Int) → List (Int × List Int × List Int) → List (Int × Int) → Int → Option ((List (Int × Int)) × Bool)) (l : List (Int × Int)) (boxess : List (Int × List Int × List Int)) (outs : List (Int × Int)) (kind : Int) : Option ((List (Int × Int)) × Bool) :=
  bif decide (kind ≤ 3) then
    (f50 k boxess l kind).bind fun r0 =>
    bif decide ((List.length outs + List.length [(r0.fst, r0.snd)]) * 16 ≤ 140737488355328) then
      rec1006 l boxess (outs ++ [(r0.fst, r0.snd)]) (IntKind.wrap IntKind.i64 (kind + 1))
    else
      none
  else
    some ((outs, true))
noncomputable def F27 (k : Nat) (rec1006 : List (Int × Int) → List (Int × List Int × List Int) → List (Int × Int) → Int → Option ((List (Int × Int)) × Bool)) (b_K : Int) (b_Low : List (Int)) (b_High : List (Int)) (l : List (Int × Int)) : Option ((List (Int × Int)) × Bool) :=
  (f35 k b_K b_Low b_High l).bind fun r0 =>
  bif !r0.snd then
    some (([], false))
  else
    rec1006 l (r0.fst) ([]) (1)
noncomputable def l27 : Nat → (List (Int × Int) → List (Int × List Int × List Int) → List (Int × Int) → Int → Option ((List (Int × Int)) × Bool))
  | 0 => fun _ _ _ _ => none
  | k + 1 => F27_1006 k (l27 k)
noncomputable def f27 (k : Nat) (b_K : Int) (b_Low : List (Int)) (b_High : List (Int)) (l : List (Int × Int)) : Option ((List (Int × Int)) × Bool) := F27 k (l27 k) b_K b_Low b_High l
noncomputable def s27 : Spec := ⟨false, [(.slice 68 (.pair (.int .i64) (.int .i64)), false), (.bool, false)], true, .pair (.slice 68 (.pair (.int .i64) (.int .i64))) (.bool), fun k xs => match xs with | [.agg [.int .i64 b_K, .slc 3 (.int .i64) b_Low, .slc 3 (.int .i64) b_High], .slc 63 (.pair (.int .i64) (.int .i64)) l] => f27 k b_K b_Low b_High l | _ => none, false, none⟩
noncomputable def env95 : List (FuncId × Spec) := (27, s27) :: env94
noncomputable abbrev x27 := exec ti (envOf env94) 30 h27 (finT ti true Go.Proofs.Try.f27.results.toList [(.slice 68 (.pair (.int .i64) (.int .i64)), false), (.bool, false)] (.pair (.slice 68 (.pair (.int .i64) (.int .i64))) (.bool)))
noncomputable def k27_1006 : List It := stackAt [.r, .r, .r, .r, .l, .r, .b, .lb none] (bodyOf Go.Proofs.Try.f27) []
def t27_1006 (l : List (Int × Int)) (boxess : List (Int × List Int × List Int)) (outs : List (Int × Int)) (kind : Int) : St := [(2, Cell.val (AVal.slc 63 (Ty.pair (Ty.int IntKind.i64) (Ty.int IntKind.i64)) l)), (12, Cell.val (AVal.ref 33 none)), (33, Cell.row true 32 (Ty.pair (Ty.int IntKind.i64) (Ty.pair (Ty.slice 3 (Ty.int IntKind.i64)) (Ty.slice 3 (Ty.int IntKind.i64)))) boxess), (16, Cell.val (AVal.ref 35 none)), (35, Cell.row true 68 (Ty.pair (Ty.int IntKind.i64) (Ty.int IntKind.i64)) outs), (18, Cell.val (AVal.int IntKind.i64 kind))]
theorem e27_1006 (k : Nat) (l : List (Int × Int)) (boxess : List (Int × List Int × List Int)) (outs : List (Int × Int)) (kind : Int) : x27 (k + 1) k27_1006 (t27_1006 l boxess outs kind) = F27_1006 k (fun (l : List (Int × Int)) (boxess : List (Int × List Int × List Int)) (outs : List (Int × Int)) (kind : Int) => x27 k k27_1006 (t27_1006 l boxess outs kind)) l boxess outs kind := by kernel_rfl
theorem q27 : ∀ k : Nat, (fun (l : List (Int × Int)) (boxess : List (Int × List Int × List Int)) (outs : List (Int × Int)) (kind : Int) => x27 k k27_1006 (t27_1006 l boxess outs kind)) = l27 k
  | 0 => rfl
  | k + 1 => by
    have h := q27 k
    show _ = F27_1006 k (l27 k)
    rw [← h]
    exact (funext fun l => funext fun boxess => funext fun outs => funext fun kind => e27_1006 k l boxess outs kind)
theorem w27 (k : Nat) (b_K : Int) (b_Low : List (Int)) (b_High : List (Int)) (l : List (Int × Int)) : runFn ti (envOf env94) 30 h27 (finT ti true Go.Proofs.Try.f27.results.toList [(.slice 68 (.pair (.int .i64) (.int .i64)), false), (.bool, false)] (.pair (.slice 68 (.pair (.int .i64) (.int .i64))) (.bool))) k (bodyOf Go.Proofs.Try.f27) (initS 0 [.agg [.int .i64 b_K, .slc 3 (.int .i64) b_Low, .slc 3 (.int .i64) b_High], .slc 63 (.pair (.int .i64) (.int .i64)) l]) = F27 k (fun (l : List (Int × Int)) (boxess : List (Int × List Int × List Int)) (outs : List (Int × Int)) (kind : Int) => x27 k k27_1006 (t27_1006 l boxess outs kind)) b_K b_Low b_High l := by kernel_rfl
theorem v27 (k : Nat) (b_K : Int) (b_Low : List (Int)) (b_High : List (Int)) (l : List (Int × Int)) : runFn ti (envOf env94) 30 h27 (finT ti true Go.Proofs.Try.f27.results.toList [(.slice 68 (.pair (.int .i64) (.int .i64)), false), (.bool, false)] (.pair (.slice 68 (.pair (.int .i64) (.int .i64))) (.bool))) k (bodyOf Go.Proofs.Try.f27) (initS 0 [.agg [.int .i64 b_K, .slc 3 (.int .i64) b_Low, .slc 3 (.int .i64) b_High], .slc 63 (.pair (.int .i64) (.int .i64)) l]) = f27 k b_K b_Low b_High l := by
  rw [w27]
  have h := q27 k
  unfold f27
  rw [← h]
theorem m27 : Meets Go.Proofs.Try.prog 27 s27 := meets_of_run tiOk env94_ok mo Go.Proofs.Try.func27 (body := bodyOf Go.Proofs.Try.f27) (by kernel_rfl) (N := 30) (by kernel_rfl) (hs := h27) (by
  intro k xs r h
  unfold s27 at h
  dsimp only at h
  split at h
  · exact ⟨Nat.le_of_ble_eq_true rfl, (v27 k _ _ _ _).trans h⟩
  · cases h)
theorem env95_ok : EnvOk Go.Proofs.Try.prog (envOf env95) := envOf_cons m27 Go.Proofs.Try.func27 (by kernel_rfl) (by kernel_rfl) env94_ok

-- impl.VolumesOf
noncomputable def f28 (k : Nat) (b_K : Int) (b_Low : List (Int)) (b_High : List (Int)) (l : List (Int × Int)) : Option ((List (Int × Int)) × Bool) :=
  (f60 k (b_K, b_Low, b_High)).bind fun r0 =>
  bif !r0 then
    some (([], false))
  else
    (f61 k l (↑(List.length b_Low) : Int)).bind fun r1 =>
    bif !r1 then
      some (([], false))
    else
      (f51 k (b_K, b_Low, b_High) l).bind fun r2 =>
      some ((r2.fst, r2.snd))
noncomputable def s28 : Spec := ⟨false, [(.slice 68 (.pair (.int .i64) (.int .i64)), false), (.bool, false)], true, .pair (.slice 68 (.pair (.int .i64) (.int .i64))) (.bool), fun k xs => match xs with | [.agg [.int .i64 b_K, .slc 3 (.int .i64) b_Low, .slc 3 (.int .i64) b_High], .slc 63 (.pair (.int .i64) (.int .i64)) l] => f28 k b_K b_Low b_High l | _ => none, false, none⟩
noncomputable def env96 : List (FuncId × Spec) := (28, s28) :: env95
theorem v28 (k : Nat) (b_K : Int) (b_Low : List (Int)) (b_High : List (Int)) (l : List (Int × Int)) : runFn ti (envOf env95) 20 [] (finT ti true Go.Proofs.Try.f28.results.toList [(.slice 68 (.pair (.int .i64) (.int .i64)), false), (.bool, false)] (.pair (.slice 68 (.pair (.int .i64) (.int .i64))) (.bool))) k (bodyOf Go.Proofs.Try.f28) (initS 0 [.agg [.int .i64 b_K, .slc 3 (.int .i64) b_Low, .slc 3 (.int .i64) b_High], .slc 63 (.pair (.int .i64) (.int .i64)) l]) = f28 k b_K b_Low b_High l := by kernel_rfl
theorem m28 : Meets Go.Proofs.Try.prog 28 s28 := meets_of_run tiOk env95_ok mo Go.Proofs.Try.func28 (body := bodyOf Go.Proofs.Try.f28) (by kernel_rfl) (N := 20) (by kernel_rfl) (hs := []) (by
  intro k xs r h
  unfold s28 at h
  dsimp only at h
  split at h
  · exact ⟨Nat.le_of_ble_eq_true rfl, (v28 k _ _ _ _).trans h⟩
  · cases h)
theorem env96_ok : EnvOk Go.Proofs.Try.prog (envOf env96) := envOf_cons m28 Go.Proofs.Try.func28 (by kernel_rfl) (by kernel_rfl) env95_ok

end Go.Proofs.YtkahcjnkmbbplaaE
