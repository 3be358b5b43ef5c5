import Derived.Test.YtbaeikcfchiiaaaE26
import Derived.Test.YtbaeikcfchiiaaaProg
import Derived.KernelRfl
namespace Go.Proofs.YtbaeikcfchiiaaaE
def ti : TI := [(2, ⟨.int .i64, .int .i64, 8, false, false⟩),
  (3, ⟨.int .i64, .int .i64, 8, false, false⟩),
  (4, ⟨.bool, .bool, 1, false, false⟩),
  (22, ⟨.slice 3 (.int .i64), .slice 3, 24, false, false⟩),
  (23, ⟨.pair (.int .i64) (.int .i64), .struct [(0, 3), (1, 3)], 16, true, false⟩),
  (24, ⟨.pair (.int .i64) (.int .i64), .struct [(0, 3), (1, 3)], 16, true, false⟩),
  (25, ⟨.pair (.pair (.int .i64) (.int .i64)) (.pair (.int .i64) (.int .i64)), .struct [(0, 24), (2, 24)], 32, true, false⟩),
  (26, ⟨.pair (.pair (.int .i64) (.int .i64)) (.pair (.int .i64) (.int .i64)), .struct [(0, 24), (2, 24)], 32, true, false⟩),
  (27, ⟨.pair (.int .i64) (.int .i64), .struct [(0, 3), (1, 3)], 16, true, false⟩),
  (28, ⟨.pair (.pair (.int .i64) (.int .i64)) (.pair (.int .i64) (.int .i64)), .struct [(0, 27), (2, 27)], 32, true, false⟩),
  (29, ⟨.pair (.pair (.int .i64) (.int .i64)) (.pair (.int .i64) (.int .i64)), .struct [(0, 27), (2, 27)], 32, true, false⟩),
  (157, ⟨.int .u64, .int .u64, 8, false, false⟩),
  (178, ⟨.int .u64, .int .u64, 8, false, false⟩),
  (179, ⟨.pair (.bool) (.pair (.int .u64) (.int .u64)), .struct [(0, 4), (1, 178), (2, 178)], 24, true, false⟩),
  (180, ⟨.pair (.bool) (.pair (.int .u64) (.int .u64)), .struct [(0, 4), (1, 178), (2, 178)], 24, true, false⟩),
  (191, ⟨.slice 224 (.int .u32), .slice 224, 24, false, false⟩),
  (192, ⟨.pair (.bool) (.slice 224 (.int .u32)), .struct [(0, 4), (1, 191)], 32, false, false⟩),
  (193, ⟨.pair (.bool) (.slice 224 (.int .u32)), .struct [(0, 4), (1, 191)], 32, false, false⟩),
  (224, ⟨.int .u32, .int .u32, 4, false, false⟩)]
def tiV : TI := [(2, ⟨.int .i64, .int .i64, 8, false, false⟩),
  (3, ⟨.int .i64, .int .i64, 8, false, false⟩),
  (4, ⟨.bool, .bool, 1, false, false⟩),
  (22, ⟨.vslice 3 (.int .i64), .slice 3, 24, false, false⟩),
  (23, ⟨.pair (.int .i64) (.int .i64), .struct [(0, 3), (1, 3)], 16, true, false⟩),
  (24, ⟨.pair (.int .i64) (.int .i64), .struct [(0, 3), (1, 3)], 16, true, false⟩),
  (25, ⟨.pair (.pair (.int .i64) (.int .i64)) (.pair (.int .i64) (.int .i64)), .struct [(0, 24), (2, 24)], 32, true, false⟩),
  (26, ⟨.pair (.pair (.int .i64) (.int .i64)) (.pair (.int .i64) (.int .i64)), .struct [(0, 24), (2, 24)], 32, true, false⟩),
  (27, ⟨.pair (.int .i64) (.int .i64), .struct [(0, 3), (1, 3)], 16, true, false⟩),
  (28, ⟨.pair (.pair (.int .i64) (.int .i64)) (.pair (.int .i64) (.int .i64)), .struct [(0, 27), (2, 27)], 32, true, false⟩),
  (29, ⟨.pair (.pair (.int .i64) (.int .i64)) (.pair (.int .i64) (.int .i64)), .struct [(0, 27), (2, 27)], 32, true, false⟩),
  (157, ⟨.int .u64, .int .u64, 8, false, false⟩),
  (178, ⟨.int .u64, .int .u64, 8, false, false⟩),
  (179, ⟨.pair (.bool) (.pair (.int .u64) (.int .u64)), .struct [(0, 4), (1, 178), (2, 178)], 24, true, false⟩),
  (180, ⟨.pair (.bool) (.pair (.int .u64) (.int .u64)), .struct [(0, 4), (1, 178), (2, 178)], 24, true, false⟩),
  (191, ⟨.vslice 224 (.int .u32), .slice 224, 24, false, false⟩),
  (192, ⟨.pair (.bool) (.vslice 224 (.int .u32)), .struct [(0, 4), (1, 191)], 32, false, false⟩),
  (193, ⟨.pair (.bool) (.vslice 224 (.int .u32)), .struct [(0, 4), (1, 191)], 32, false, false⟩),
  (224, ⟨.int .u32, .int .u32, 4, false, false⟩)]
def tiC : TI := [(2, ⟨.int .i64, .int .i64, 8, false, false⟩),
  (3, ⟨.int .i64, .int .i64, 8, false, false⟩),
  (4, ⟨.bool, .bool, 1, false, false⟩),
  (22, ⟨.slice 3 (.int .i64), .slice 3, 24, false, false⟩),
  (23, ⟨.pair (.int .i64) (.int .i64), .struct [(0, 3), (1, 3)], 16, true, true⟩),
  (24, ⟨.pair (.int .i64) (.int .i64), .struct [(0, 3), (1, 3)], 16, true, true⟩),
  (25, ⟨.pair (.pair (.int .i64) (.int .i64)) (.pair (.int .i64) (.int .i64)), .struct [(0, 24), (2, 24)], 32, true, true⟩),
  (26, ⟨.pair (.pair (.int .i64) (.int .i64)) (.pair (.int .i64) (.int .i64)), .struct [(0, 24), (2, 24)], 32, true, true⟩),
  (27, ⟨.pair (.int .i64) (.int .i64), .struct [(0, 3), (1, 3)], 16, true, true⟩),
  (28, ⟨.pair (.pair (.int .i64) (.int .i64)) (.pair (.int .i64) (.int .i64)), .struct [(0, 27), (2, 27)], 32, true, true⟩),
  (29, ⟨.pair (.pair (.int .i64) (.int .i64)) (.pair (.int .i64) (.int .i64)), .struct [(0, 27), (2, 27)], 32, true, true⟩),
  (157, ⟨.int .u64, .int .u64, 8, false, false⟩),
  (178, ⟨.int .u64, .int .u64, 8, false, false⟩),
  (179, ⟨.pair (.bool) (.pair (.int .u64) (.int .u64)), .struct [(0, 4), (1, 178), (2, 178)], 24, true, true⟩),
  (180, ⟨.pair (.bool) (.pair (.int .u64) (.int .u64)), .struct [(0, 4), (1, 178), (2, 178)], 24, true, true⟩),
  (191, ⟨.slice 224 (.int .u32), .slice 224, 24, false, false⟩),
  (192, ⟨.pair (.bool) (.slice 224 (.int .u32)), .struct [(0, 4), (1, 191)], 32, false, true⟩),
  (193, ⟨.pair (.bool) (.slice 224 (.int .u32)), .struct [(0, 4), (1, 191)], 32, false, true⟩),
  (224, ⟨.int .u32, .int .u32, 4, false, false⟩)]
theorem tiOk : TiOk Go.Proofs.Try.prog ti := tiB_ok (by kernel_rfl)
theorem tiVOk : TiOk Go.Proofs.Try.prog tiV := tiB_ok (by kernel_rfl)
theorem tiCOk : TiOk Go.Proofs.Try.prog tiC := tiB_ok (by kernel_rfl)
theorem mo : Go.Proofs.Try.prog.follows .mixedOrders = true := by kernel_rfl
def env0 : List (FuncId × Spec) := []
theorem env0_ok : EnvOk Go.Proofs.Try.prog (envOf env0) := envOf_nil _
end Go.Proofs.YtbaeikcfchiiaaaE
