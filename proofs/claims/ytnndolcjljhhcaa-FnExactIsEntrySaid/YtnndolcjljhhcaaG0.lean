import Derived.Test.YtnndolcjljhhcaaE21
import Derived.Test.YtnndolcjljhhcaaProg
import Derived.KernelRfl
namespace Go.Proofs.YtnndolcjljhhcaaE
def ti : TI := [(3, ⟨.int .i64, .int .i64, 8⟩),
  (4, ⟨.bool, .bool, 1⟩),
  (5, ⟨.int .u8, .int .u8, 1⟩),
  (9, ⟨.str, .str, 16⟩),
  (22, ⟨.slice 3 (.int .i64), .slice 3, 24⟩),
  (55, ⟨.slice 130 (.slice 160 (.pair (.int .i64) (.pair (.int .i64) (.pair (.int .i64) (.int .i64))))), .slice 130, 24⟩),
  (56, ⟨.pair (.int .i64) (.pair (.slice 3 (.int .i64)) (.slice 3 (.int .i64))), .struct [(0, 3), (1, 22), (2, 22)], 56⟩),
  (57, ⟨.pair (.int .i64) (.pair (.slice 3 (.int .i64)) (.slice 3 (.int .i64))), .struct [(0, 3), (1, 22), (2, 22)], 56⟩),
  (58, ⟨.pair (.str) (.pair (.slice 130 (.slice 160 (.pair (.int .i64) (.pair (.int .i64) (.pair (.int .i64) (.int .i64)))))) (.pair (.pair (.int .i64) (.pair (.slice 3 (.int .i64)) (.slice 3 (.int .i64)))) (.pair (.int .i64) (.pair (.int .i64) (.int .i64))))), .struct [(0, 9), (1, 55), (2, 57), (5, 3), (6, 3), (7, 3)], 120⟩),
  (59, ⟨.pair (.str) (.pair (.slice 130 (.slice 160 (.pair (.int .i64) (.pair (.int .i64) (.pair (.int .i64) (.int .i64)))))) (.pair (.pair (.int .i64) (.pair (.slice 3 (.int .i64)) (.slice 3 (.int .i64)))) (.pair (.int .i64) (.pair (.int .i64) (.int .i64))))), .struct [(0, 9), (1, 55), (2, 57), (5, 3), (6, 3), (7, 3)], 120⟩),
  (62, ⟨.slice 133 (.slice 136 (.pair (.int .i64) (.pair (.int .i64) (.pair (.int .i64) (.int .i64))))), .slice 133, 24⟩),
  (63, ⟨.pair (.int .i64) (.pair (.slice 3 (.int .i64)) (.slice 3 (.int .i64))), .struct [(0, 3), (1, 22), (2, 22)], 56⟩),
  (64, ⟨.pair (.str) (.pair (.slice 133 (.slice 136 (.pair (.int .i64) (.pair (.int .i64) (.pair (.int .i64) (.int .i64)))))) (.pair (.pair (.int .i64) (.pair (.slice 3 (.int .i64)) (.slice 3 (.int .i64)))) (.pair (.int .i64) (.pair (.int .i64) (.int .i64))))), .struct [(0, 9), (1, 62), (2, 63), (5, 3), (6, 3), (7, 3)], 120⟩),
  (65, ⟨.pair (.str) (.pair (.slice 133 (.slice 136 (.pair (.int .i64) (.pair (.int .i64) (.pair (.int .i64) (.int .i64)))))) (.pair (.pair (.int .i64) (.pair (.slice 3 (.int .i64)) (.slice 3 (.int .i64)))) (.pair (.int .i64) (.pair (.int .i64) (.int .i64))))), .struct [(0, 9), (1, 62), (2, 63), (5, 3), (6, 3), (7, 3)], 120⟩),
  (111, ⟨.pair (.str) (.pair (.slice 133 (.slice 136 (.pair (.int .i64) (.pair (.int .i64) (.pair (.int .i64) (.int .i64)))))) (.pair (.pair (.int .i64) (.pair (.slice 3 (.int .i64)) (.slice 3 (.int .i64)))) (.pair (.int .i64) (.pair (.int .i64) (.int .i64))))), .other, 8⟩),
  (117, ⟨.pair (.int .i64) (.pair (.slice 3 (.int .i64)) (.slice 3 (.int .i64))), .other, 8⟩),
  (130, ⟨.slice 160 (.pair (.int .i64) (.pair (.int .i64) (.pair (.int .i64) (.int .i64)))), .slice 160, 24⟩),
  (133, ⟨.slice 136 (.pair (.int .i64) (.pair (.int .i64) (.pair (.int .i64) (.int .i64)))), .slice 136, 24⟩),
  (135, ⟨.pair (.int .i64) (.pair (.int .i64) (.pair (.int .i64) (.int .i64))), .struct [(0, 3), (1, 3), (2, 3), (3, 3)], 32⟩),
  (136, ⟨.pair (.int .i64) (.pair (.int .i64) (.pair (.int .i64) (.int .i64))), .struct [(0, 3), (1, 3), (2, 3), (3, 3)], 32⟩),
  (145, ⟨.int .u64, .int .u64, 8⟩),
  (160, ⟨.pair (.int .i64) (.pair (.int .i64) (.pair (.int .i64) (.int .i64))), .struct [(0, 3), (1, 3), (2, 3), (3, 3)], 32⟩),
  (191, ⟨.pair (.int .i64) (.pair (.int .i64) (.int .i64)), .arr 3 3, 24⟩)]
def tiV : TI := [(3, ⟨.int .i64, .int .i64, 8⟩),
  (4, ⟨.bool, .bool, 1⟩),
  (5, ⟨.int .u8, .int .u8, 1⟩),
  (9, ⟨.str, .str, 16⟩),
  (22, ⟨.vslice 3 (.int .i64), .slice 3, 24⟩),
  (55, ⟨.vslice 130 (.vslice 160 (.pair (.int .i64) (.pair (.int .i64) (.pair (.int .i64) (.int .i64))))), .slice 130, 24⟩),
  (56, ⟨.pair (.int .i64) (.pair (.vslice 3 (.int .i64)) (.vslice 3 (.int .i64))), .struct [(0, 3), (1, 22), (2, 22)], 56⟩),
  (57, ⟨.pair (.int .i64) (.pair (.vslice 3 (.int .i64)) (.vslice 3 (.int .i64))), .struct [(0, 3), (1, 22), (2, 22)], 56⟩),
  (58, ⟨.pair (.str) (.pair (.vslice 130 (.vslice 160 (.pair (.int .i64) (.pair (.int .i64) (.pair (.int .i64) (.int .i64)))))) (.pair (.pair (.int .i64) (.pair (.vslice 3 (.int .i64)) (.vslice 3 (.int .i64)))) (.pair (.int .i64) (.pair (.int .i64) (.int .i64))))), .struct [(0, 9), (1, 55), (2, 57), (5, 3), (6, 3), (7, 3)], 120⟩),
  (59, ⟨.pair (.str) (.pair (.vslice 130 (.vslice 160 (.pair (.int .i64) (.pair (.int .i64) (.pair (.int .i64) (.int .i64)))))) (.pair (.pair (.int .i64) (.pair (.vslice 3 (.int .i64)) (.vslice 3 (.int .i64)))) (.pair (.int .i64) (.pair (.int .i64) (.int .i64))))), .struct [(0, 9), (1, 55), (2, 57), (5, 3), (6, 3), (7, 3)], 120⟩),
  (62, ⟨.vslice 133 (.vslice 136 (.pair (.int .i64) (.pair (.int .i64) (.pair (.int .i64) (.int .i64))))), .slice 133, 24⟩),
  (63, ⟨.pair (.int .i64) (.pair (.vslice 3 (.int .i64)) (.vslice 3 (.int .i64))), .struct [(0, 3), (1, 22), (2, 22)], 56⟩),
  (64, ⟨.pair (.str) (.pair (.vslice 133 (.vslice 136 (.pair (.int .i64) (.pair (.int .i64) (.pair (.int .i64) (.int .i64)))))) (.pair (.pair (.int .i64) (.pair (.vslice 3 (.int .i64)) (.vslice 3 (.int .i64)))) (.pair (.int .i64) (.pair (.int .i64) (.int .i64))))), .struct [(0, 9), (1, 62), (2, 63), (5, 3), (6, 3), (7, 3)], 120⟩),
  (65, ⟨.pair (.str) (.pair (.vslice 133 (.vslice 136 (.pair (.int .i64) (.pair (.int .i64) (.pair (.int .i64) (.int .i64)))))) (.pair (.pair (.int .i64) (.pair (.vslice 3 (.int .i64)) (.vslice 3 (.int .i64)))) (.pair (.int .i64) (.pair (.int .i64) (.int .i64))))), .struct [(0, 9), (1, 62), (2, 63), (5, 3), (6, 3), (7, 3)], 120⟩),
  (111, ⟨.pair (.str) (.pair (.vslice 133 (.vslice 136 (.pair (.int .i64) (.pair (.int .i64) (.pair (.int .i64) (.int .i64)))))) (.pair (.pair (.int .i64) (.pair (.vslice 3 (.int .i64)) (.vslice 3 (.int .i64)))) (.pair (.int .i64) (.pair (.int .i64) (.int .i64))))), .other, 8⟩),
  (117, ⟨.pair (.int .i64) (.pair (.vslice 3 (.int .i64)) (.vslice 3 (.int .i64))), .other, 8⟩),
  (130, ⟨.vslice 160 (.pair (.int .i64) (.pair (.int .i64) (.pair (.int .i64) (.int .i64)))), .slice 160, 24⟩),
  (133, ⟨.vslice 136 (.pair (.int .i64) (.pair (.int .i64) (.pair (.int .i64) (.int .i64)))), .slice 136, 24⟩),
  (135, ⟨.pair (.int .i64) (.pair (.int .i64) (.pair (.int .i64) (.int .i64))), .struct [(0, 3), (1, 3), (2, 3), (3, 3)], 32⟩),
  (136, ⟨.pair (.int .i64) (.pair (.int .i64) (.pair (.int .i64) (.int .i64))), .struct [(0, 3), (1, 3), (2, 3), (3, 3)], 32⟩),
  (145, ⟨.int .u64, .int .u64, 8⟩),
  (160, ⟨.pair (.int .i64) (.pair (.int .i64) (.pair (.int .i64) (.int .i64))), .struct [(0, 3), (1, 3), (2, 3), (3, 3)], 32⟩),
  (191, ⟨.pair (.int .i64) (.pair (.int .i64) (.int .i64)), .arr 3 3, 24⟩)]
theorem tiOk : TiOk Go.Proofs.Try.prog ti := tiB_ok (by kernel_rfl)
theorem tiVOk : TiOk Go.Proofs.Try.prog tiV := tiB_ok (by kernel_rfl)
theorem mo : Go.Proofs.Try.prog.follows .mixedOrders = true := by kernel_rfl
def env0 : List (FuncId × Spec) := []
theorem env0_ok : EnvOk Go.Proofs.Try.prog (envOf env0) := envOf_nil _
end Go.Proofs.YtnndolcjljhhcaaE
