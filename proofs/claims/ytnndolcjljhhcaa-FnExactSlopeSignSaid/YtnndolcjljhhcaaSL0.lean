import Derived.Test.YtnndolcjljhhcaaE25
import Derived.Test.YtnndolcjljhhcaaProg
import Derived.KernelRfl
namespace Go.Proofs.YtnndolcjljhhcaaE
def ti : TI := [(3, ⟨.int .i64, .int .i64, 8, false⟩),
  (4, ⟨.bool, .bool, 1, false⟩),
  (22, ⟨.slice 3 (.int .i64), .slice 3, 24, false⟩),
  (48, ⟨.pair (.int .i64) (.int .i64), .struct [(0, 3), (1, 3)], 16, true⟩),
  (49, ⟨.pair (.int .i64) (.int .i64), .struct [(0, 3), (1, 3)], 16, true⟩),
  (52, ⟨.pair (.int .i64) (.int .i64), .struct [(0, 3), (1, 3)], 16, true⟩),
  (69, ⟨.pair (.pair (.int .i64) (.int .i64)) (.pair (.int .i64) (.int .i64)), .struct [(0, 49), (2, 49)], 32, true⟩),
  (70, ⟨.pair (.pair (.int .i64) (.int .i64)) (.pair (.int .i64) (.int .i64)), .struct [(0, 49), (2, 49)], 32, true⟩),
  (72, ⟨.pair (.pair (.int .i64) (.int .i64)) (.pair (.int .i64) (.int .i64)), .struct [(0, 52), (2, 52)], 32, true⟩),
  (73, ⟨.pair (.pair (.int .i64) (.int .i64)) (.pair (.int .i64) (.int .i64)), .struct [(0, 52), (2, 52)], 32, true⟩),
  (145, ⟨.int .u64, .int .u64, 8, false⟩),
  (170, ⟨.int .u64, .int .u64, 8, false⟩),
  (171, ⟨.pair (.bool) (.pair (.int .u64) (.int .u64)), .struct [(0, 4), (1, 170), (2, 170)], 24, true⟩),
  (172, ⟨.pair (.bool) (.pair (.int .u64) (.int .u64)), .struct [(0, 4), (1, 170), (2, 170)], 24, true⟩)]
def tiV : TI := [(3, ⟨.int .i64, .int .i64, 8, false⟩),
  (4, ⟨.bool, .bool, 1, false⟩),
  (22, ⟨.vslice 3 (.int .i64), .slice 3, 24, false⟩),
  (48, ⟨.pair (.int .i64) (.int .i64), .struct [(0, 3), (1, 3)], 16, true⟩),
  (49, ⟨.pair (.int .i64) (.int .i64), .struct [(0, 3), (1, 3)], 16, true⟩),
  (52, ⟨.pair (.int .i64) (.int .i64), .struct [(0, 3), (1, 3)], 16, true⟩),
  (69, ⟨.pair (.pair (.int .i64) (.int .i64)) (.pair (.int .i64) (.int .i64)), .struct [(0, 49), (2, 49)], 32, true⟩),
  (70, ⟨.pair (.pair (.int .i64) (.int .i64)) (.pair (.int .i64) (.int .i64)), .struct [(0, 49), (2, 49)], 32, true⟩),
  (72, ⟨.pair (.pair (.int .i64) (.int .i64)) (.pair (.int .i64) (.int .i64)), .struct [(0, 52), (2, 52)], 32, true⟩),
  (73, ⟨.pair (.pair (.int .i64) (.int .i64)) (.pair (.int .i64) (.int .i64)), .struct [(0, 52), (2, 52)], 32, true⟩),
  (145, ⟨.int .u64, .int .u64, 8, false⟩),
  (170, ⟨.int .u64, .int .u64, 8, false⟩),
  (171, ⟨.pair (.bool) (.pair (.int .u64) (.int .u64)), .struct [(0, 4), (1, 170), (2, 170)], 24, true⟩),
  (172, ⟨.pair (.bool) (.pair (.int .u64) (.int .u64)), .struct [(0, 4), (1, 170), (2, 170)], 24, true⟩)]
theorem tiOk : TiOk Go.Proofs.Try.prog ti := tiB_ok (by kernel_rfl)
theorem tiVOk : TiOk Go.Proofs.Try.prog tiV := tiB_ok (by kernel_rfl)
theorem mo : Go.Proofs.Try.prog.follows .mixedOrders = true := by kernel_rfl
def env0 : List (FuncId × Spec) := []
theorem env0_ok : EnvOk Go.Proofs.Try.prog (envOf env0) := envOf_nil _
end Go.Proofs.YtnndolcjljhhcaaE
