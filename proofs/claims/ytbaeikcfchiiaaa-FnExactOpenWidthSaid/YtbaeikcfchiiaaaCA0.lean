import Derived.Test.YtbaeikcfchiiaaaE25
import Derived.Test.YtbaeikcfchiiaaaProg
import Derived.KernelRfl
namespace Go.Proofs.YtbaeikcfchiiaaaE
def ti : TI := [(3, ⟨.int .i64, .int .i64, 8, false⟩),
  (4, ⟨.bool, .bool, 1, false⟩),
  (5, ⟨.int .u8, .int .u8, 1, false⟩),
  (9, ⟨.str, .str, 16, false⟩),
  (22, ⟨.slice 3 (.int .i64), .slice 3, 24, false⟩),
  (39, ⟨.slice 105 (.pair (.str) (.pair (.slice 202 (.slice 233 (.pair (.int .i64) (.pair (.int .i64) (.pair (.int .i64) (.int .i64)))))) (.pair (.pair (.int .i64) (.pair (.slice 3 (.int .i64)) (.slice 3 (.int .i64)))) (.pair (.int .i64) (.pair (.int .i64) (.int .i64)))))), .slice 105, 24, false⟩),
  (42, ⟨.slice 108 (.pair (.str) (.pair (.slice 152 (.slice 150 (.pair (.int .i64) (.pair (.int .i64) (.pair (.int .i64) (.int .i64)))))) (.pair (.pair (.int .i64) (.pair (.slice 3 (.int .i64)) (.slice 3 (.int .i64)))) (.pair (.int .i64) (.pair (.int .i64) (.int .i64)))))), .slice 108, 24, false⟩),
  (52, ⟨.pair (.int .i64) (.pair (.slice 3 (.int .i64)) (.slice 3 (.int .i64))), .struct [(0, 3), (1, 22), (2, 22)], 56, false⟩),
  (53, ⟨.pair (.int .i64) (.pair (.slice 3 (.int .i64)) (.slice 3 (.int .i64))), .struct [(0, 3), (1, 22), (2, 22)], 56, false⟩),
  (60, ⟨.pair (.int .i64) (.pair (.slice 3 (.int .i64)) (.slice 3 (.int .i64))), .struct [(0, 3), (1, 22), (2, 22)], 56, false⟩),
  (103, ⟨.slice 202 (.slice 233 (.pair (.int .i64) (.pair (.int .i64) (.pair (.int .i64) (.int .i64))))), .slice 202, 24, false⟩),
  (104, ⟨.pair (.str) (.pair (.slice 202 (.slice 233 (.pair (.int .i64) (.pair (.int .i64) (.pair (.int .i64) (.int .i64)))))) (.pair (.pair (.int .i64) (.pair (.slice 3 (.int .i64)) (.slice 3 (.int .i64)))) (.pair (.int .i64) (.pair (.int .i64) (.int .i64))))), .struct [(0, 9), (1, 103), (2, 53), (5, 3), (6, 3), (7, 3)], 120, false⟩),
  (105, ⟨.pair (.str) (.pair (.slice 202 (.slice 233 (.pair (.int .i64) (.pair (.int .i64) (.pair (.int .i64) (.int .i64)))))) (.pair (.pair (.int .i64) (.pair (.slice 3 (.int .i64)) (.slice 3 (.int .i64)))) (.pair (.int .i64) (.pair (.int .i64) (.int .i64))))), .struct [(0, 9), (1, 103), (2, 53), (5, 3), (6, 3), (7, 3)], 120, false⟩),
  (106, ⟨.slice 152 (.slice 150 (.pair (.int .i64) (.pair (.int .i64) (.pair (.int .i64) (.int .i64))))), .slice 152, 24, false⟩),
  (107, ⟨.pair (.str) (.pair (.slice 152 (.slice 150 (.pair (.int .i64) (.pair (.int .i64) (.pair (.int .i64) (.int .i64)))))) (.pair (.pair (.int .i64) (.pair (.slice 3 (.int .i64)) (.slice 3 (.int .i64)))) (.pair (.int .i64) (.pair (.int .i64) (.int .i64))))), .struct [(0, 9), (1, 106), (2, 60), (5, 3), (6, 3), (7, 3)], 120, false⟩),
  (108, ⟨.pair (.str) (.pair (.slice 152 (.slice 150 (.pair (.int .i64) (.pair (.int .i64) (.pair (.int .i64) (.int .i64)))))) (.pair (.pair (.int .i64) (.pair (.slice 3 (.int .i64)) (.slice 3 (.int .i64)))) (.pair (.int .i64) (.pair (.int .i64) (.int .i64))))), .struct [(0, 9), (1, 106), (2, 60), (5, 3), (6, 3), (7, 3)], 120, false⟩),
  (123, ⟨.pair (.int .i64) (.pair (.slice 3 (.int .i64)) (.slice 3 (.int .i64))), .other, 8, false⟩),
  (149, ⟨.pair (.int .i64) (.pair (.int .i64) (.pair (.int .i64) (.int .i64))), .struct [(0, 3), (1, 3), (2, 3), (3, 3)], 32, true⟩),
  (150, ⟨.pair (.int .i64) (.pair (.int .i64) (.pair (.int .i64) (.int .i64))), .struct [(0, 3), (1, 3), (2, 3), (3, 3)], 32, true⟩),
  (152, ⟨.slice 150 (.pair (.int .i64) (.pair (.int .i64) (.pair (.int .i64) (.int .i64)))), .slice 150, 24, false⟩),
  (155, ⟨.pair (.str) (.pair (.slice 152 (.slice 150 (.pair (.int .i64) (.pair (.int .i64) (.pair (.int .i64) (.int .i64)))))) (.pair (.pair (.int .i64) (.pair (.slice 3 (.int .i64)) (.slice 3 (.int .i64)))) (.pair (.int .i64) (.pair (.int .i64) (.int .i64))))), .other, 8, false⟩),
  (157, ⟨.int .u64, .int .u64, 8, false⟩),
  (202, ⟨.slice 233 (.pair (.int .i64) (.pair (.int .i64) (.pair (.int .i64) (.int .i64)))), .slice 233, 24, false⟩),
  (233, ⟨.pair (.int .i64) (.pair (.int .i64) (.pair (.int .i64) (.int .i64))), .struct [(0, 3), (1, 3), (2, 3), (3, 3)], 32, true⟩),
  (246, ⟨.pair (.int .i64) (.pair (.int .i64) (.int .i64)), .arr 3 3, 24, false⟩)]
def tiV : TI := [(3, ⟨.int .i64, .int .i64, 8, false⟩),
  (4, ⟨.bool, .bool, 1, false⟩),
  (5, ⟨.int .u8, .int .u8, 1, false⟩),
  (9, ⟨.str, .str, 16, false⟩),
  (22, ⟨.vslice 3 (.int .i64), .slice 3, 24, false⟩),
  (39, ⟨.vslice 105 (.pair (.str) (.pair (.vslice 202 (.vslice 233 (.pair (.int .i64) (.pair (.int .i64) (.pair (.int .i64) (.int .i64)))))) (.pair (.pair (.int .i64) (.pair (.vslice 3 (.int .i64)) (.vslice 3 (.int .i64)))) (.pair (.int .i64) (.pair (.int .i64) (.int .i64)))))), .slice 105, 24, false⟩),
  (42, ⟨.vslice 108 (.pair (.str) (.pair (.vslice 152 (.vslice 150 (.pair (.int .i64) (.pair (.int .i64) (.pair (.int .i64) (.int .i64)))))) (.pair (.pair (.int .i64) (.pair (.vslice 3 (.int .i64)) (.vslice 3 (.int .i64)))) (.pair (.int .i64) (.pair (.int .i64) (.int .i64)))))), .slice 108, 24, false⟩),
  (52, ⟨.pair (.int .i64) (.pair (.vslice 3 (.int .i64)) (.vslice 3 (.int .i64))), .struct [(0, 3), (1, 22), (2, 22)], 56, false⟩),
  (53, ⟨.pair (.int .i64) (.pair (.vslice 3 (.int .i64)) (.vslice 3 (.int .i64))), .struct [(0, 3), (1, 22), (2, 22)], 56, false⟩),
  (60, ⟨.pair (.int .i64) (.pair (.vslice 3 (.int .i64)) (.vslice 3 (.int .i64))), .struct [(0, 3), (1, 22), (2, 22)], 56, false⟩),
  (103, ⟨.vslice 202 (.vslice 233 (.pair (.int .i64) (.pair (.int .i64) (.pair (.int .i64) (.int .i64))))), .slice 202, 24, false⟩),
  (104, ⟨.pair (.str) (.pair (.vslice 202 (.vslice 233 (.pair (.int .i64) (.pair (.int .i64) (.pair (.int .i64) (.int .i64)))))) (.pair (.pair (.int .i64) (.pair (.vslice 3 (.int .i64)) (.vslice 3 (.int .i64)))) (.pair (.int .i64) (.pair (.int .i64) (.int .i64))))), .struct [(0, 9), (1, 103), (2, 53), (5, 3), (6, 3), (7, 3)], 120, false⟩),
  (105, ⟨.pair (.str) (.pair (.vslice 202 (.vslice 233 (.pair (.int .i64) (.pair (.int .i64) (.pair (.int .i64) (.int .i64)))))) (.pair (.pair (.int .i64) (.pair (.vslice 3 (.int .i64)) (.vslice 3 (.int .i64)))) (.pair (.int .i64) (.pair (.int .i64) (.int .i64))))), .struct [(0, 9), (1, 103), (2, 53), (5, 3), (6, 3), (7, 3)], 120, false⟩),
  (106, ⟨.vslice 152 (.vslice 150 (.pair (.int .i64) (.pair (.int .i64) (.pair (.int .i64) (.int .i64))))), .slice 152, 24, false⟩),
  (107, ⟨.pair (.str) (.pair (.vslice 152 (.vslice 150 (.pair (.int .i64) (.pair (.int .i64) (.pair (.int .i64) (.int .i64)))))) (.pair (.pair (.int .i64) (.pair (.vslice 3 (.int .i64)) (.vslice 3 (.int .i64)))) (.pair (.int .i64) (.pair (.int .i64) (.int .i64))))), .struct [(0, 9), (1, 106), (2, 60), (5, 3), (6, 3), (7, 3)], 120, false⟩),
  (108, ⟨.pair (.str) (.pair (.vslice 152 (.vslice 150 (.pair (.int .i64) (.pair (.int .i64) (.pair (.int .i64) (.int .i64)))))) (.pair (.pair (.int .i64) (.pair (.vslice 3 (.int .i64)) (.vslice 3 (.int .i64)))) (.pair (.int .i64) (.pair (.int .i64) (.int .i64))))), .struct [(0, 9), (1, 106), (2, 60), (5, 3), (6, 3), (7, 3)], 120, false⟩),
  (123, ⟨.pair (.int .i64) (.pair (.vslice 3 (.int .i64)) (.vslice 3 (.int .i64))), .other, 8, false⟩),
  (149, ⟨.pair (.int .i64) (.pair (.int .i64) (.pair (.int .i64) (.int .i64))), .struct [(0, 3), (1, 3), (2, 3), (3, 3)], 32, true⟩),
  (150, ⟨.pair (.int .i64) (.pair (.int .i64) (.pair (.int .i64) (.int .i64))), .struct [(0, 3), (1, 3), (2, 3), (3, 3)], 32, true⟩),
  (152, ⟨.vslice 150 (.pair (.int .i64) (.pair (.int .i64) (.pair (.int .i64) (.int .i64)))), .slice 150, 24, false⟩),
  (155, ⟨.pair (.str) (.pair (.vslice 152 (.vslice 150 (.pair (.int .i64) (.pair (.int .i64) (.pair (.int .i64) (.int .i64)))))) (.pair (.pair (.int .i64) (.pair (.vslice 3 (.int .i64)) (.vslice 3 (.int .i64)))) (.pair (.int .i64) (.pair (.int .i64) (.int .i64))))), .other, 8, false⟩),
  (157, ⟨.int .u64, .int .u64, 8, false⟩),
  (202, ⟨.vslice 233 (.pair (.int .i64) (.pair (.int .i64) (.pair (.int .i64) (.int .i64)))), .slice 233, 24, false⟩),
  (233, ⟨.pair (.int .i64) (.pair (.int .i64) (.pair (.int .i64) (.int .i64))), .struct [(0, 3), (1, 3), (2, 3), (3, 3)], 32, true⟩),
  (246, ⟨.pair (.int .i64) (.pair (.int .i64) (.int .i64)), .arr 3 3, 24, false⟩)]
theorem tiOk : TiOk Go.Proofs.Try.prog ti := tiB_ok (by kernel_rfl)
theorem tiVOk : TiOk Go.Proofs.Try.prog tiV := tiB_ok (by kernel_rfl)
theorem mo : Go.Proofs.Try.prog.follows .mixedOrders = true := by kernel_rfl
def env0 : List (FuncId × Spec) := []
theorem env0_ok : EnvOk Go.Proofs.Try.prog (envOf env0) := envOf_nil _
end Go.Proofs.YtbaeikcfchiiaaaE
