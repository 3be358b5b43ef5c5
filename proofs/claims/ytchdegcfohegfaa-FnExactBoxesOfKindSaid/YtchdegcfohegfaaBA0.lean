import Derived.Test.YtchdegcfohegfaaE26
import Derived.Test.YtchdegcfohegfaaProg
import Derived.KernelRfl
namespace Go.Proofs.YtchdegcfohegfaaE
def ti : TI := [(3, ⟨.int .i64, .int .i64, 8, false, false⟩),
  (4, ⟨.bool, .bool, 1, false, false⟩),
  (9, ⟨.str, .str, 16, false, false⟩),
  (22, ⟨.slice 3 (.int .i64), .slice 3, 24, false, false⟩),
  (23, ⟨.pair (.int .i64) (.pair (.slice 3 (.int .i64)) (.slice 3 (.int .i64))), .struct [(0, 3), (1, 22), (2, 22)], 56, false, false⟩),
  (24, ⟨.pair (.int .i64) (.pair (.slice 3 (.int .i64)) (.slice 3 (.int .i64))), .struct [(0, 3), (1, 22), (2, 22)], 56, false, false⟩),
  (25, ⟨.slice 59 (.pair (.int .i64) (.int .i64)), .slice 59, 24, false, false⟩),
  (28, ⟨.slice 31 (.pair (.int .i64) (.pair (.slice 3 (.int .i64)) (.slice 3 (.int .i64)))), .slice 31, 24, false, false⟩),
  (31, ⟨.pair (.int .i64) (.pair (.slice 3 (.int .i64)) (.slice 3 (.int .i64))), .struct [(0, 3), (1, 22), (2, 22)], 56, false, false⟩),
  (33, ⟨.slice 57 (.pair (.int .i64) (.int .i64)), .slice 57, 24, false, false⟩),
  (46, ⟨.slice 22 (.slice 3 (.int .i64)), .slice 22, 24, false, false⟩),
  (56, ⟨.pair (.int .i64) (.int .i64), .struct [(0, 3), (1, 3)], 16, true, false⟩),
  (57, ⟨.pair (.int .i64) (.int .i64), .struct [(0, 3), (1, 3)], 16, true, false⟩),
  (59, ⟨.pair (.int .i64) (.int .i64), .struct [(0, 3), (1, 3)], 16, true, false⟩),
  (62, ⟨.pair (.int .i64) (.pair (.slice 3 (.int .i64)) (.slice 3 (.int .i64))), .other, 8, false, false⟩),
  (81, ⟨.slice 9 (.str), .slice 9, 24, false, false⟩),
  (102, ⟨.int .u64, .int .u64, 8, false, false⟩)]
def tiV : TI := [(3, ⟨.int .i64, .int .i64, 8, false, false⟩),
  (4, ⟨.bool, .bool, 1, false, false⟩),
  (9, ⟨.str, .str, 16, false, false⟩),
  (22, ⟨.vslice 3 (.int .i64), .slice 3, 24, false, false⟩),
  (23, ⟨.pair (.int .i64) (.pair (.vslice 3 (.int .i64)) (.vslice 3 (.int .i64))), .struct [(0, 3), (1, 22), (2, 22)], 56, false, false⟩),
  (24, ⟨.pair (.int .i64) (.pair (.vslice 3 (.int .i64)) (.vslice 3 (.int .i64))), .struct [(0, 3), (1, 22), (2, 22)], 56, false, false⟩),
  (25, ⟨.vslice 59 (.pair (.int .i64) (.int .i64)), .slice 59, 24, false, false⟩),
  (28, ⟨.vslice 31 (.pair (.int .i64) (.pair (.vslice 3 (.int .i64)) (.vslice 3 (.int .i64)))), .slice 31, 24, false, false⟩),
  (31, ⟨.pair (.int .i64) (.pair (.vslice 3 (.int .i64)) (.vslice 3 (.int .i64))), .struct [(0, 3), (1, 22), (2, 22)], 56, false, false⟩),
  (33, ⟨.vslice 57 (.pair (.int .i64) (.int .i64)), .slice 57, 24, false, false⟩),
  (46, ⟨.vslice 22 (.vslice 3 (.int .i64)), .slice 22, 24, false, false⟩),
  (56, ⟨.pair (.int .i64) (.int .i64), .struct [(0, 3), (1, 3)], 16, true, false⟩),
  (57, ⟨.pair (.int .i64) (.int .i64), .struct [(0, 3), (1, 3)], 16, true, false⟩),
  (59, ⟨.pair (.int .i64) (.int .i64), .struct [(0, 3), (1, 3)], 16, true, false⟩),
  (62, ⟨.pair (.int .i64) (.pair (.vslice 3 (.int .i64)) (.vslice 3 (.int .i64))), .other, 8, false, false⟩),
  (81, ⟨.vslice 9 (.str), .slice 9, 24, false, false⟩),
  (102, ⟨.int .u64, .int .u64, 8, false, false⟩)]
def tiC : TI := [(3, ⟨.int .i64, .int .i64, 8, false, true⟩),
  (4, ⟨.bool, .bool, 1, false, true⟩),
  (9, ⟨.str, .str, 16, false, true⟩),
  (22, ⟨.slice 3 (.int .i64), .slice 3, 24, false, true⟩),
  (23, ⟨.pair (.int .i64) (.pair (.slice 3 (.int .i64)) (.slice 3 (.int .i64))), .struct [(0, 3), (1, 22), (2, 22)], 56, false, true⟩),
  (24, ⟨.pair (.int .i64) (.pair (.slice 3 (.int .i64)) (.slice 3 (.int .i64))), .struct [(0, 3), (1, 22), (2, 22)], 56, false, true⟩),
  (25, ⟨.slice 59 (.pair (.int .i64) (.int .i64)), .slice 59, 24, false, true⟩),
  (28, ⟨.slice 31 (.pair (.int .i64) (.pair (.slice 3 (.int .i64)) (.slice 3 (.int .i64)))), .slice 31, 24, false, true⟩),
  (31, ⟨.pair (.int .i64) (.pair (.slice 3 (.int .i64)) (.slice 3 (.int .i64))), .struct [(0, 3), (1, 22), (2, 22)], 56, false, true⟩),
  (33, ⟨.slice 57 (.pair (.int .i64) (.int .i64)), .slice 57, 24, false, true⟩),
  (46, ⟨.slice 22 (.slice 3 (.int .i64)), .slice 22, 24, false, true⟩),
  (56, ⟨.pair (.int .i64) (.int .i64), .struct [(0, 3), (1, 3)], 16, true, true⟩),
  (57, ⟨.pair (.int .i64) (.int .i64), .struct [(0, 3), (1, 3)], 16, true, true⟩),
  (59, ⟨.pair (.int .i64) (.int .i64), .struct [(0, 3), (1, 3)], 16, true, true⟩),
  (62, ⟨.pair (.int .i64) (.pair (.slice 3 (.int .i64)) (.slice 3 (.int .i64))), .other, 8, false, false⟩),
  (81, ⟨.slice 9 (.str), .slice 9, 24, false, true⟩),
  (102, ⟨.int .u64, .int .u64, 8, false, true⟩)]
theorem tiOk : TiOk Go.Proofs.Try.prog ti := tiB_ok (by kernel_rfl)
theorem tiVOk : TiOk Go.Proofs.Try.prog tiV := tiB_ok (by kernel_rfl)
theorem tiCOk : TiOk Go.Proofs.Try.prog tiC := tiB_ok (by kernel_rfl)
theorem mo : Go.Proofs.Try.prog.follows .mixedOrders = true := by kernel_rfl
def env0 : List (FuncId × Spec) := []
theorem env0_ok : EnvOk Go.Proofs.Try.prog (envOf env0) := envOf_nil _
end Go.Proofs.YtchdegcfohegfaaE
